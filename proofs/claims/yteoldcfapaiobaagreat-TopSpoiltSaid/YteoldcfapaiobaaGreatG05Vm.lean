/- The walks of packages word and vm, over whatever memory keeps the cells. -/
import Derived.Test.YteoldcfapaiobaaGreatG04Job
import Derived.Test.YteoldcfapaiobaaGreatG01Row
import Derived.Test.YteoldcfapaiobaaGreatG03Snap2
namespace Go.Proofs.YteoldcfapaiobaaGreat
open Tryz
open List (mem_range eraseIdx_set_eq append_nil set_set range_succ countP_congr)
open Go.RowKit
set_option linter.unusedVariables false
set_option linter.unusedSimpArgs false
set_option maxRecDepth 10000
set_option synthInstance.maxSize 4000
set_option synthInstance.maxHeartbeats 400000
section
section
variable {W w:World}{L:List SP}
theorem Kw {x:Int}(I:U W w L)(hx:ds x):Calls prog 229 #[.int .i32 x,.int .i64 32] w λe w'=>e=.returned (.int .i64 (kO x))∧U W w' L:=by
 have h1:=Int.tmod_lt_of_pos x (b:=32) (by decide);have h2:=Int.lt_tmod_of_pos x (b:=32) (by decide);have hm:(kO x:Int)=x%32:=by
  have h1:=Int.emod_nonneg x (show (32:Int)≠0 by decide);show (((x%32).toNat:Nat):Int)=_;omega
 have ht:x.tmod 32=if 0≤x then x%32 else -((-x)%32):=by
  split
  ·exact Int.tmod_eq_emod_of_nonneg (by omega)
  ·rw[← Int.neg_neg (x.tmod 32),← Int.neg_tmod,Int.tmod_eq_emod_of_nonneg (by omega)]
 simp only[ds]at hx;refine EN func229 ntmps229 rfl rfl λa E=>?_;refine RN 6 E I λa E=>?_;replace E:=E.aP 7;refine SX 3 E I (by rw[fR (by omega) (by omega)]) λa E=>?_;refine IF 7 E I (λao a E=>?_) λao a E=>?_
 ·
  refine RN 4 E I λa E=>?_;rw[show x.tmod 32+32=(kO x:Int) from by rw[hm,ht];split <;> omega]at E;refine RT 3 E I ?_;exact⟨rfl,I⟩
 refine RT 3 E I ?_;exact⟨by rw[hm,show x.tmod 32=x%32 from by rw[ht] at *;split at*<;> omega],I⟩
theorem W6 {x y:Int}(I:U W w L):Calls prog 244 #[.int .i32 x,.int .i32 y] w λe w'=>e=.returned (.int .i32 (iv (x+y)))∧U W w' L:=by
 refine EN func244 ntmps244 rfl rfl λa E=>?_;refine RT 7 E I ?_;exact⟨rfl,I⟩
theorem W7 {x y:Int}(I:U W w L):Calls prog 245 #[.int .i32 x,.int .i32 y] w λe w'=>e=.returned (.int .i32 (iv (x-y)))∧U W w' L:=by
 refine EN func245 ntmps245 rfl rfl λa E=>?_;refine RT 7 E I ?_;exact⟨rfl,I⟩
theorem W8 {x y:Int}(I:U W w L):Calls prog 246 #[.int .i32 x,.int .i32 y] w λe w'=>e=.returned (.int .i32 (iv (x*y)))∧U W w' L:=by
 refine EN func246 ntmps246 rfl rfl λa E=>?_;refine RT 7 E I ?_;exact⟨rfl,I⟩
theorem W9 {x y:Int}(I:U W w L):Calls prog 247 #[.int .i32 x,.int .i32 y] w λe w'=>e=.returned (.int .i32 (if y=0 then 0 else iv (x.tdiv y)))∧U W w' L:=by
 refine EN func247 ntmps247 rfl rfl λa E=>?_;refine IF 8 E I (λaj a E=>?_) λaj a E=>?_
 ·
  refine RT 2 E I ?_;exact⟨by rw[ak (by omega)],I⟩
 refine IF 3 E I (λao a E=>?_) λao a E=>?_
 ·
  refine RT 4 E I ?_;exact⟨by rw[ag (by omega),show y = -1 from by omega,Int.tdiv_neg,Int.tdiv_one,show (0:Int)-x = -x from by omega];rfl,I⟩
 refine RN 3 E I λa E=>?_;refine SS E (I9 E (by omega)) λa E=>?_;refine RT 1 E I ?_;exact⟨by rw[ag (by omega)];rfl,I⟩
theorem Ky {z:Bool}(I:U W w L):Calls prog 248 #[.bool z] w λe w'=>e=.returned (.int .i32 (if z=true then 1 else 0))∧U W w' L:=by
 refine EN func248 ntmps248 rfl rfl λa E=>?_;refine IF 5 E I (λaj a E=>?_) λaj a E=>?_
 ·
  refine RT 2 E I ?_;exact⟨by rw[ak aj],I⟩
 refine RT 2 E I ?_;exact⟨by rw[ag (by rw[aj];decide)],I⟩
theorem Xa {k x y:Int}(I:U W w L):Calls prog 242 #[.int .i64 k,.int .i32 x,.int .i32 y] w λe w'=>e=.returned (.int .i32 (ji k x y))∧U W w' L:=by
 refine EN func242 ntmps242 rfl rfl λa E=>?_;refine IF 8 E I (λaj a E=>?_) λaj a E=>?_
 ·
  refine CL 3 E I (W6 I) λa w E I=>?_;refine RT 1 E I ?_;exact⟨by simp[ji,aj],I⟩
 refine IF 3 E I (λao a E=>?_) λao a E=>?_
 ·
  refine CL 3 E I (W7 I) λa w E I=>?_;refine RT 1 E I ?_;exact⟨by simp[ji,ao],I⟩
 refine IF 3 E I (λay a E=>?_) λay a E=>?_
 ·
  refine CL 3 E I (W8 I) λa w E I=>?_;refine RT 1 E I ?_;exact⟨by simp[ji,ay],I⟩
 refine IF 3 E I (λbk a E=>?_) λbk a E=>?_
 ·
  refine CL 3 E I (W9 I) λa w E I=>?_;refine RT 1 E I ?_;exact⟨by simp[ji,bk],I⟩
 refine IF 3 E I (λbN a E=>?_) λbN a E=>?_
 ·
  refine CL 4 E I (Ky I) λa w E I=>?_;refine RT 1 E I ?_;exact⟨by simp[ji,bN],I⟩
 refine CL 4 E I (Ky I) λa w E I=>?_;refine RT 1 E I ?_;exact⟨by simp[ji,aj,ao,ay,bk,bN],I⟩
theorem Xb {s:ByteArray}{n:Int}(I:U W w L)(aH:s.size≤1099511627776)(hn:ds n):Calls prog 241 #[.string s,.int .i64 n] w λe w'=>e=.returned (.int .i32 (nm s n))∧U W w' L:=by
 simp only[ds]at hn;refine EN func241 ntmps241 rfl rfl λa E=>?_;refine RN 5 E I λa E=>?_;refine DD E rfl I underlying9 rfl λb8 a w E I ho=>?_;clear ho;refine RN 0 E I λa E=>?_;refine aN (λμ a w=>∃ (pos:Nat) (dn:List (Nat×Nat)),(μ=s.size-pos∧pos≤s.size∧eg s 0=dn++eg s pos∧dn.length≤pos∧(n<0∨(dn.length:Int)≤n))∧Fr a 17 [(0,.string s),(1,.int .i64 (n-dn.length)),(8,pt b8)]∧U W w (kW b8 (.stringIter s pos)::L)) (s.size) (⟨0,[],⟨by simp,by simp,by simp,by simp,by simp;omega⟩,by rw[show n-(([]:List (Nat×Nat)).length:Int)=n from by simp];exact E.ab [0,1,8],I⟩) ?_;clear E I;rintro μ a w ⟨pos,dn,⟨rfl,qD,db,mT,n0⟩,E,I⟩;refine RN 1 E I λa E=>?_;refine DF E rfl I rfl λa w E I=>?_;refine RN 0 E I λa E=>?_;refine SS E (oC E (DA s pos)) λa E=>?_;refine IF 1 E I (λaj a E=>?_) λaj a E=>?_
 ·
  have np:=rQ aj;have jD:=Eh qD;have pV:ec s pos=pos+(Utf8.decode s pos).2:=by rw[ec,ak aj]
  have lQ:=uR s pos;refine RN 1 E I λa E=>?_;refine SS E (oC E (DB aj)) λa E=>?_;refine IF 5 E I (λao a E=>?_) λao a E=>?_
  ·
   refine RT 3 E I ?_;refine⟨?_,I.sub⟩;have n1:n.toNat=dn.length:=by omega
   rw[nm,ak (by omega),db,np,n1,pD (a7 _),Nat.sub_self];rfl
  refine RN 3 E I λa E=>?_;exact⟨s.size-ec s pos,by omega,ec s pos,dn++[Utf8.decode s pos],⟨rfl,jD,by rw[db,np,dx];rfl,by rw[aJ];simp;omega,by rw[aJ];simp;omega⟩,by rw[show n-((dn++[Utf8.decode s pos]).length:Int)=n-(dn.length:Int)-1 from by rw[aJ];simp;omega];exact E.ab [0,1,8],I.sub⟩
 refine RT 2 E I ?_;refine⟨?_,I.sub⟩;have gK:=rR (s:=s) (pos:=pos) aj;rw[gK,append_nil]at db;rw[nm];split
 ·rw[db,jt (by omega)];rfl
 ·rfl
structure yE (W:World)(t:TypeId)(ad:Addr)(uY fs:FuncId)(J:(Nat→Int)→Bool→SP):Prop where
 oV : pJ prog t "Get" uY
 oW:hQ prog uY=true
 AZ : pJ prog t "Set" fs
 wu:hQ prog fs=true
 ok:∀ (w:World) (L:List SP) (g:Nat→Int) (bad:Bool),U W w (J g bad::L)→dS g
 get:∀ (w:World) (L:List SP) (g:Nat→Int) (bad:Bool) (c:Nat),c<32→U W w (J g bad::L)→Calls prog uY (List.toArray [.pointer (some ad),.int .i64 c]) w λe w'=>e=.returned (.int .i32 (g c))∧U W w' (J g bad::L)
 set:∀ (w:World) (L:List SP) (g:Nat→Int) (bad:Bool) (c:Nat) (v:Int),c<32→ds v→U W w (J g bad::L)→Calls prog fs (List.toArray [.pointer (some ad),.int .i64 c,.int .i32 v]) w λe w' =>
  ∃ (g':Nat→Int) (fv:Bool),e=.returned (.tuple #[])∧((fv=true∧g'=g)∨(fv=false∧bad=false∧g'=ck g c v))∧U W w' (J g' fv::L)
abbrev hZ (p:Pr)(aq:Option Addr)(cO:Nat)(t:TypeId)(ad:Addr)(fr:Int)(adP:Option Addr)(oX cP:Nat)(aO:Nat):List Value :=
 [.string p.title,.slice aq p.ops.length cO,.iface t (.pointer (some ad)),.int .i64 fr,.slice adP oX cP,.int .i64 aO]
variable {t:TypeId}{ad:Addr}{uY fs gw aO cO cP:Nat}{J:(Nat→Int)→Bool→SP}{p:Pr}{aq adP:Option Addr}{fr:Int}{b:List UInt8}{g:Nat→Int}{bad:Bool}{o:gJ}
theorem Xc {x:Int}(I:U W w (aa gw 336 (hZ p aq cO t ad fr adP b.length cP aO)::L))(hx:ds x)(hb:b.length≤1099511627776)(hp:∀ w',U W w' L→aX w' adP b.length b) :
   Calls prog 240 #[pt gw,.int .i32 x] w λe w'=>e=.returned (.int .i32 (mR b x))∧U W w' (aa gw 336 (hZ p aq cO t ad fr adP b.length cP aO)::L):=by
 simp only[ds]at hx;refine EN func240 ntmps240 rfl rfl λa E=>?_;refine BY 7 E I (λbA a E=>?_) λbA a E=>?_
 ·
  refine RT 12 E I ?_;exact⟨by rw[mR,ag (by omega)],I⟩
 refine SX 1 E I (by rw[fR (by omega) (by omega)]) λa E=>?_;refine IF 7 E I (λaj a E=>?_) λaj a E=>?_
 ·
  refine RT 2 E I ?_;exact⟨by rw[mR,ag (by omega)],I⟩
 refine RN 1 E I λa E=>?_;obtain⟨k,hk⟩:∃ k:Nat,x=(k:Int):=⟨x.toNat,by omega⟩;obtain⟨_,_,a6⟩:=hp _ I.tail;have yF:k<b.length:=by omega
 obtain⟨bp,op,g6,c9⟩:∃ bp op,adP=some ⟨bp,op,none⟩∧Rd w bp op (bc b):=by
  cases hh:adP with
  | none =>
   have:=(hp _ I.tail).2.1 hh;omega
  | some a =>
   obtain⟨b1,o1,rfl,h1⟩:=a6 a hh (by omega);exact⟨b1,o1,rfl,h1⟩
 rw[hk]at E;refine RN 4 E I λa E=>?_;rw[g6]at E;refine RN 2 E I λa E=>?_;refine SS E (ae E (c9 k (.int .u8 b[k].toNat) (by simp[bc,yF]))) λa E=>?_;refine SX 0 E I (by have:=b[k].toNat_lt;exact iw (by omega) (by omega)) λa E=>?_;refine RT 1 E I ?_;refine⟨?_,I.sub⟩;rw[mR,ak (by omega),hk,c8,bm,aD yF];rfl
theorem n2 {c:Nat}{v:Int}(h:dS g)(hv:ds v):dS (ck g c v):=λd hd=>by
 simp only[ck];split
 ·exact hv
 ·exact h d hd
def qT (x:Int)(m:Nat):Prop:=∃ n:Nat,x=(n:Int)∧n≤m
def ml (x:Int)(m:Nat):Prop:=∃ n:Nat,x=(n:Int)∧n<m
theorem qT.of {x:Int}{m:Nat}(h:0≤x∧x≤m):qT x m:=⟨x.toNat,by omega,by omega⟩
theorem ml.of {x:Int}{m:Nat}(h:0≤x∧x<m):ml x m:=⟨x.toNat,by omega,by omega⟩
theorem Xd {M:yE W t ad uY fs J}{m:Nat}(I:U W w (aa gw 336 (hZ p aq cO t ad fr adP b.length cP aO)::J g bad::L))(ho:e6 m o)(h0:o.code≠0)(h9:o.code≠9)(fg:o.code≠10)(Kp:o.code≠13)
   (aH:p.title.size≤1000000000) (hb:b.length≤1099511627776) (hp:∀ w',U W w' L→aX w' adP b.length b) :
   Calls prog 230 #[pt gw,.agg (dR o).toArray] w λe w'=>e=.returned (.int .i32 (jR p fr b g o))∧U W w' (aa gw 336 (hZ p aq cO t ad fr adP b.length cP aO)::J g bad::L):=by
 have hg:dS g:=M.ok _ _ g bad I.tail;have qU:=ho;simp only[e6,e5]at qU;have oY:o.code≠1→o.code≠15→ml o.b 32:=λh1 h2=>ml.of (by omega);have jS:3≤o.code∧o.code≤8→ml o.c 32:=λh=>ml.of (by omega);have rW:o.code≠1→o.code≠2→o.code≠11→o.code≠12→o.code≠14→o.code≠15→3≤o.code∧o.code≤8:=by omega
 clear qU;refine EN func230 ntmps230 rfl rfl λa E=>?_;refine BX 1 E I λb3 a w E I=>?_;change U W w (aa b3 114 (dR o)::_) at I;refine IF 8 E I (λaj a E=>?_) λaj a E=>?_
 ·
  refine RN 3 E I λa E=>?_;refine SS E (gr E underlying3 underlying21) λa E=>?_;refine RT 1 E I ?_;exact⟨by simp[jR,aj];rfl,I.sub⟩
 refine IF 3 E I (λao a E=>?_) λao a E=>?_
 ·
  refine RN 1 E I λa E=>?_;obtain⟨bB,eb,oZ⟩:=oY (by omega) (by omega);refine bR 0 [5] [0,1,2,4,3003,1005,1006,7] E I λa w E I hH hC=>?_;refine RH 6 E I hH hC λa E=>?_;rw[eb]at E;refine jP E rfl M.oV M.oW rfl (M.get _ _ g bad bB oZ (I.pick (J g bad))) (by rfl) ?_;clear E I;rintro e w ⟨rfl,I⟩;refine⟨_,rfl,λa E=>?_⟩;refine RN 1 E I λa E=>?_;refine RT 0 E I ?_;exact⟨by simp[jR,ao,eb],I.sub⟩
 refine IF 3 E I (λay a E=>?_) λay a E=>?_
 ·
  refine RN 1 E I λa E=>?_;obtain⟨bB,eb,oZ⟩:=oY (by omega) (by omega);refine bR 0 [6] [0,1,2,3,5,3004,1006,1007,1008,9] E I λa w E I hH hC=>?_;refine RH 7 E I hH hC λa E=>?_;rw[eb]at E;refine jP E rfl M.oV M.oW rfl (M.get _ _ g bad bB oZ (I.pick (J g bad))) (by rfl) ?_;clear E I;rintro e w ⟨rfl,I⟩;refine⟨_,rfl,λa E=>?_⟩;refine CL 0 E I (Xc (I.jZ gw) (hg bB oZ) hb (λw' h=>hp w' h.sub)) λa w E I=>?_;refine RN 1 E I λa E=>?_;refine RT 0 E I ?_;exact⟨by simp[jR,ay,eb],I.sub⟩
 refine IF 3 E I (λbk a E=>?_) λbk a E=>?_
 ·
  refine aV 1 (λw0 w'=>Rd w' gw 0 (hZ p aq cO t ad fr adP b.length cP aO)∧Rd w' b3 0 (dR o)) [7,9,10,11] [0,1,2,4,5,6,8,3003,12,13,3007,1009,1010,1011,1014,15] E I λa w E I hH=>?_;obtain⟨bB,eb,oZ⟩:=oY (by omega) (by omega);have yG:=yr (g bB);have jT:Rd w gw 0 (hZ p aq cO t ad fr adP b.length cP aO):=I.ai;have gK:Rd w b3 0 (dR o):=I.ai;have hC:=And.intro jT gK;refine RH 7 E I hH hC λa E=>?_;refine QH E (λw hc=>ae E (hc.1 2 _ rfl)) hC λa E=>?_;refine RH 2 E I hH hC λa E=>?_;refine QH E (λw hc=>ae E (hc.1 2 _ rfl)) hC λa E=>?_;refine RH 0 E I hH hC λa E=>?_;refine SS E (ae E (hC.2 2 _ rfl)) λa E=>?_;rw[eb]at E;refine RH 0 E I hH hC λa E=>?_;refine jP E rfl M.oV M.oW rfl (M.get _ _ g bad bB oZ (I.pick (J g bad))) (by rfl) ?_;clear E I;rintro e w ⟨rfl,I⟩;refine⟨_,rfl,λa E=>?_⟩;replace hC:=hH.at w (And.intro I.ai I.ai);refine RH 0 E I hH hC λa E=>?_;refine CL 0 E I (Kw I (hg bB oZ)) λa w E I=>?_;replace hC:=hH.at w (And.intro I.ai I.ai);refine RH 0 E I hH hC λa E=>?_;refine jP E rfl M.oV M.oW rfl (M.get _ _ g bad (kO (g bB)) yG (I.pick (J g bad))) (by rfl) ?_;clear E I;rintro e w ⟨rfl,I⟩;refine⟨_,rfl,λa E=>?_⟩;refine RN 1 E I λa E=>?_;refine RT 0 E I ?_;exact⟨by simp[jR,bk,eb],I.sub⟩
 refine IF 3 E I (λbN a E=>?_) λbN a E=>?_
 ·
  refine aV 1 (λw0 w'=>Rd w' gw 0 (hZ p aq cO t ad fr adP b.length cP aO)∧Rd w' b3 0 (dR o)) [8,10,11,12] [0,1,2,3,5,6,7,9,3004,3008,1010,1011,1012,1013,14] E I λa w E I hH=>?_;obtain⟨bB,eb,oZ⟩:=oY (by omega) (by omega);have Kz:=hg bB oZ;have Xe:=Kz;simp only[ds]at Xe;have jT:Rd w gw 0 (hZ p aq cO t ad fr adP b.length cP aO):=I.ai;have gK:Rd w b3 0 (dR o):=I.ai;have hC:=And.intro jT gK;refine RH 8 E I hH hC λa E=>?_;refine QH E (λw hc=>ae E (hc.1 0 _ rfl)) hC λa E=>?_;refine QH E (λw hc=>ae E (hc.1 2 _ rfl)) hC λa E=>?_;refine RH 0 E I hH hC λa E=>?_;refine SS E (ae E (hC.2 2 _ rfl)) λa E=>?_;rw[eb]at E;refine RH 0 E I hH hC λa E=>?_;refine jP E rfl M.oV M.oW rfl (M.get _ _ g bad bB oZ (I.pick (J g bad))) (by rfl) ?_;clear E I;rintro e w ⟨rfl,I⟩;refine⟨_,rfl,λa E=>?_⟩;replace hC:=hH.at w (And.intro I.ai I.ai);refine RH 0 E I hH hC λa E=>?_;refine SX 0 E I (by rw[fR (by omega) (by omega)]) λa E=>?_;refine RH 0 E I hH hC λa E=>?_;refine CL 0 E I (Xb I (by omega) Kz) λa w E I=>?_;refine RN 1 E I λa E=>?_;refine RT 0 E I ?_;exact⟨by simp[jR,bN,eb],I.sub⟩
 refine IF 3 E I (λeN a E=>?_) λeN a E=>?_
 ·
  refine RN 5 E I λa E=>?_;refine SS E (gr E underlying3 underlying100) λa E=>?_;refine RN 0 E I λa E=>?_;refine SS E (gr E underlying100 underlying21) λa E=>?_;refine RT 1 E I ?_;refine⟨?_,I.sub⟩;have e:IntKind.i32.wrap (IntKind.u32.wrap fr)=iv fr:=by
   simp only[iv,IntKind.wrap,IntKind.signed,IntKind.bits];have:fr%4294967296%4294967296=fr%4294967296:=Int.emod_emod_of_dvd _ (Int.dvd_refl _);simp[this]
  simp[jR,eN,e]
 refine RN 1 E I λa E=>?_;obtain⟨bB,eb,oZ⟩:=oY (by omega) (by omega);obtain⟨uG,pY,Xf⟩:=jS (rW aj ao ay bk bN eN);refine bR 0 [5] [0,1,2,4,3003,1005,1006,7] E I λa w E I hH hC=>?_;refine RH 6 E I hH hC λa E=>?_;rw[eb]at E;refine jP E rfl M.oV M.oW rfl (M.get _ _ g bad bB oZ (I.pick (J g bad))) (by rfl) ?_;clear E I;rintro e w ⟨rfl,I⟩;refine⟨_,rfl,λa E=>?_⟩;refine RN 1 E I λa E=>?_;refine aV 1 (λw0 w'=>Rd w' gw 0 (hZ p aq cO t ad fr adP b.length cP aO)∧Rd w' b3 0 (dR o)) [6,8,9] [0,2,3,4,5,7,3001,3006,1008,1009,1010,11] E I λa w E I hH=>?_;have jT:Rd w gw 0 (hZ p aq cO t ad fr adP b.length cP aO):=I.ai;have gK:Rd w b3 0 (dR o):=I.ai;have hC:=And.intro jT gK;refine RH 6 E I hH hC λa E=>?_;refine QH E (λw hc=>ae E (hc.2 0 _ rfl)) hC λa E=>?_;refine QH E (λw hc=>ae E (hc.1 2 _ rfl)) hC λa E=>?_;refine RH 0 E I hH hC λa E=>?_;refine SS E (ae E (hC.2 3 _ rfl)) λa E=>?_;rw[pY]at E;refine RH 0 E I hH hC λa E=>?_;refine jP E rfl M.oV M.oW rfl (M.get _ _ g bad uG Xf (I.pick (J g bad))) (by rfl) ?_;clear E I;rintro e w ⟨rfl,I⟩;refine⟨_,rfl,λa E=>?_⟩;replace hC:=hH.at w (And.intro I.ai I.ai);refine RH 0 E I hH hC λa E=>?_;refine CL 0 E I (Xa I) λa w E I=>?_;refine RN 1 E I λa E=>?_;refine RT 0 E I ?_;exact⟨by simp[jR,aj,ao,ay,bk,bN,eN,eb,pY],I.sub⟩
theorem KA (s:ByteArray)(n:Int):ds (nm s n):=by
 have hb:∀ pos,∀ x∈eg s pos,x.1<1114112:=by
  have h:∀ k pos,s.size-pos≤k→∀ x∈eg s pos,x.1<1114112:=by
   intro k
   induction k with
   | zero=>intro pos h x hx;rw[rR (by omega)]at hx;simp at hx
   | succ k ih =>
    intro pos h x hx;by_cases hp:pos<s.size
    ·rw[rQ hp]at hx;rcases List.mem_cons.1 hx with rfl | hx
     ·exact V5 s pos
     ·have:=(uR s pos).1;exact ih (ec s pos) (by rw[ec,ak hp];omega) x hx
    ·rw[rR hp]at hx;simp at hx
  exact λpos=>h _ pos (a7 _)
 simp only[nm,ds];split
 ·cases hx:(eg s 0)[n.toNat]? with
  | none=>simp
  | some x =>
   have:=hb 0 x (bF hx);simp only[Option.map_some,Option.getD_some];omega
 ·omega
theorem KB (k x y:Int):ds (ji k x y):=by
 unfold ji;have h1:ds 1:=by simp[ds]
 have h0:ds 0:=by simp[ds]
 repeat' split
 all_goals first | exact yt _ | exact h1 | exact h0
theorem KC (b:List UInt8)(x:Int):ds (mR b x):=by
 simp only[mR,ds];split
 ·have:=(b.getD x.toNat 0).toNat_lt;omega
 ·omega
theorem KD {m:Int}(hg:dS g)(ho:e6 m o)(h9:o.code≠9)(fg:o.code≠10):ds (jR p fr b g o):=by
 simp only[e6,e5]at ho;have hb:o.code≠1→o.code≠15→o.code≠0→o.b.toNat<32:=λh1 h2 h3=>by omega
 have h0:o.code=0→o.b.toNat<32:=λh=>by omega
 unfold jR;split
 ·exact yt _
 ·split
  ·exact hg _ (hb (by omega) (by omega) (by omega))
  ·split
   ·exact KC _ _
   ·split
    ·exact hg _ (yr _)
    ·split
     ·exact KA _ _
     ·split
      ·exact yt _
      ·exact KB _ _ _
set_option maxHeartbeats 4000000 in
theorem Xg {M:yE W t ad uY fs J}(I:U W w (aa gw 336 (hZ p aq cO t ad fr adP b.length cP aO)::J g bad::aA W p aq cO::L))(a6:∀ o∈p.ops,e6 p.ops.length o)(e8:p.ops[aO]?=some o)
   (aH:p.title.size≤1000000000) (ea:p.ops.length≤1000000000) (hb:b.length≤1099511627776) (hp:∀ w',U W w' L→aX w' adP b.length b) :
   Calls prog 203 #[pt gw] w λe w'=>∃ (g':Nat→Int) (yH:Nat) (fv r:Bool),e=.returned (.bool r)∧(fv=false→bad=false∧eu p fr b g aO o=(g',yH,r))∧yH≤p.ops.length ∧
    U W w' (aa gw 336 (hZ p aq cO t ad fr adP b.length cP yH)::J g' fv::aA W p aq cO::L):=by
 have hg:dS g:=M.ok _ _ g bad I.tail;have ho:=a6 o (bF e8);have afL:=(aY.1 e8).1;have qU:=ho;simp only[e6,e5]at qU;have EJ:o.code=9→qT o.a p.ops.length:=λh=>qT.of (by omega);have kf:o.code≠9→o.code≠0→ml o.a 32:=λh h2=>ml.of (by omega);have EK:o.code=10→qT o.b p.ops.length:=λh=>qT.of (by omega);have Xh:o.code=13→ml o.b 32:=λh=>ml.of (by omega);clear qU;refine EN func203 ntmps203 rfl rfl λa E=>?_;refine bR 3 [8,11] [0,1,2,3,5,6,7,3004,3008,9,3010,1011,1012] E I λa w E I hH hC=>?_;obtain⟨k0,oo,g6,gK⟩:=I.rT aq (by omega);rw[g6]at I;replace hH:=Hd.gE I;refine RH 10 E I hH hC λa E=>?_;refine QH E (λw hc=>bT E underlying114 rfl Ty.t114 (hc.rd (wI gK e8))) hC λa E=>?_;refine RH 0 E I hH hC λa E=>?_;refine eZ E rfl I Ty.t114 rfl λb3 a w E I ho=>?_;replace hC:=hC.trans ho;clear ho;refine RH 0 E I hH hC λa E=>?_;refine SA 0 E I λa w E I=>?_;refine RN 0 E I λa E=>?_;rw[← g6]at I;replace E:=E.ab [0,3];refine ST 8 E I (λa w E I=>?_) (hlt:=(by simp[hZ]));rw[show ((aO:Int)+1)=((aO+1:Nat):Int) from rfl]at I;change U W w (aa gw 336 (hZ p aq cO t ad fr adP b.length cP (aO+1))::_) at I;refine IF 7 E I (λaj a E=>?_) λaj a E=>?_
 ·
  refine RT 2 E I ?_;exact⟨g,aO+1,bad,false,rfl,λh=>⟨h,by rw[eu,ak aj]⟩,by omega,I.sub⟩
 refine IF 3 E I (λao a E=>?_) λao a E=>?_
 ·
  obtain⟨cF,dM,kg⟩:=EJ ao;refine ST 5 E I (λa w E I=>?_) (hlt:=(by simp[hZ]));rw[dM]at I;change U W w (aa gw 336 (hZ p aq cO t ad fr adP b.length cP cF)::_) at I;refine RT 2 E I ?_;exact⟨g,cF,bad,true,rfl,λh=>⟨h,by rw[eu,ag aj,ak ao,dM];rfl⟩,by omega,I.sub⟩
 refine IF 3 E I (λay a E=>?_) λay a E=>?_
 ·
  refine RN 1 E I λa E=>?_;obtain⟨cF,dM,kg⟩:=kf ao aj;obtain⟨bB,eb,iP⟩:=EK ay;refine bR 0 [5] [0,1,2,4,3003,1005,1006,7] E I λa w E I hH hC=>?_;refine RH 6 E I hH hC λa E=>?_;rw[dM]at E;refine jP E rfl M.oV M.oW rfl (M.get _ _ g bad cF kg (I.pick (J g bad))) (by rfl) ?_;clear E I;rintro e w ⟨rfl,I⟩;refine⟨_,rfl,λa E=>?_⟩;refine RN 1 E I λa E=>?_;refine IF 0 E I (λbk a E=>?_) λbk a E=>?_
  ·
   refine ST 5 E I (λa w E I=>?_) (hlt:=(by simp[hZ]));rw[eb]at I;change U W w (aa gw 336 (hZ p aq cO t ad fr adP b.length cP bB)::_) at I;refine RT 2 E I ?_;exact⟨g,bB,bad,true,rfl,λh=>⟨h,by rw[eu,ag aj,ag ao,ak ay,dM,eb,c8,ak bk];rfl⟩,by omega,I.sub⟩
  refine RT 2 E I ?_;exact⟨g,aO+1,bad,true,rfl,λh=>⟨h,by rw[eu,ag aj,ag ao,ak ay,dM,c8,ag bk]⟩,by omega,I.sub⟩
 refine IF 3 E I (λbN a E=>?_) λbN a E=>?_
 ·
  refine RN 1 E I λa E=>?_;obtain⟨cF,dM,kg⟩:=kf ao aj;obtain⟨bB,eb,iP⟩:=Xh bN;refine bR 0 [5] [0,1,2,4,3003,1005,1006,1007,8] E I λa w E I hH hC=>?_;refine RH 6 E I hH hC λa E=>?_;rw[dM]at E;refine jP E rfl M.oV M.oW rfl (M.get _ _ g bad cF kg (I.pick (J g bad))) (by rfl) ?_;clear E I;rintro e w ⟨rfl,I⟩;refine⟨_,rfl,λa E=>?_⟩;refine CL 0 E I (Kw I (hg cF kg)) λa w E I=>?_;refine RN 1 E I λa E=>?_;refine aV 0 (λw0 w'=>Rd w' gw 0 (hZ p aq cO t ad fr adP b.length cP (aO+1))∧Rd w' b3 0 (dR o)) [8,10,11] [0,1,2,4,5,6,7,9,3003,12,13,3008,1010,1011,1014] E I λa w E I hH=>?_;have jT:Rd w gw 0 (hZ p aq cO t ad fr adP b.length cP (aO+1)):=I.ai;have kh:Rd w b3 0 (dR o):=I.ai;have hC:=And.intro jT kh;refine RH 8 E I hH hC λa E=>?_;refine QH E (λw hc=>ae E (hc.1 2 _ rfl)) hC λa E=>?_;refine RH 2 E I hH hC λa E=>?_;refine QH E (λw hc=>ae E (hc.1 2 _ rfl)) hC λa E=>?_;refine RH 0 E I hH hC λa E=>?_;refine SS E (ae E (hC.2 2 _ rfl)) λa E=>?_;rw[eb]at E;refine RH 0 E I hH hC λa E=>?_;refine jP E rfl M.oV M.oW rfl (M.get _ _ g bad bB iP (I.pick (J g bad))) (by rfl) ?_;clear E I;rintro e w ⟨rfl,I⟩;refine⟨_,rfl,λa E=>?_⟩;replace hC:=hH.at w (And.intro I.ai I.ai);refine RH 0 E I hH hC λa E=>?_;refine jP E rfl M.AZ M.wu rfl (M.set _ _ g bad (kO (g cF)) (g bB) (yr _) (hg bB iP) (I.pick (J g bad))) (by rfl) ?_;clear E I;rintro e w ⟨g',fv,rfl,yx,I⟩;refine⟨_,rfl,λa E=>?_⟩;refine RT 2 E I ?_;refine⟨g',aO+1,fv,true,rfl,λh=>?_,by omega,I.sub⟩;obtain⟨_,h1,h2⟩:=yx.resolve_left (λh3=>by rw[h]at h3;cases h3.1);exact⟨h1,by rw[eu,ag aj,ag ao,ag ay,ak bN,dM,eb,c8,c8,h2]⟩
 refine aV 0 (λw0 w'=>Rd w' gw 0 (hZ p aq cO t ad fr adP b.length cP (aO+1))∧Rd w' b3 0 (dR o)) [5,7,8] [0,1,2,4,6,3003,9,10,3005,1007,1008,1011] E I λa w E I hH=>?_;obtain⟨cF,dM,kg⟩:=kf ao aj;have jT:Rd w gw 0 (hZ p aq cO t ad fr adP b.length cP (aO+1)):=I.ai;have kh:Rd w b3 0 (dR o):=I.ai;have hC:=And.intro jT kh;refine RH 5 E I hH hC λa E=>?_;refine QH E (λw hc=>ae E (hc.1 2 _ rfl)) hC λa E=>?_;refine RH 2 E I hH hC λa E=>?_;refine QH E (λw hc=>ae E (hc.2 1 _ rfl)) hC λa E=>?_;rw[dM]at E;refine RH 0 E I hH hC λa E=>?_;refine SS E (bT E underlying114 rfl Ty.t114 (hC.2)) λa E=>?_;refine RH 0 E I hH hC λa E=>?_;refine CL 0 E I (Xd (M:=M) (L:=aa b3 114 (dR o)::aA W p aq cO::L) (I.sub (M:=aa gw 336 (hZ p aq cO t ad fr adP b.length cP (aO+1))::J g bad::aa b3 114 (dR o)::aA W p aq cO::L)) ho aj ao ay bN aH hb (λw' h=>hp w' h.sub)) λa w E I=>?_;replace hC:=hH.at w (And.intro I.ai I.ai);refine RH 0 E I hH hC λa E=>?_;refine jP E rfl M.AZ M.wu rfl (M.set _ _ g bad cF (jR p fr b g o) kg (KD hg ho ao ay) (I.pick (J g bad))) (by rfl) ?_;clear E I;rintro e w ⟨g',fv,rfl,yx,I⟩;refine⟨_,rfl,λa E=>?_⟩;refine RT 2 E I ?_;refine⟨g',aO+1,fv,true,rfl,λh=>?_,by omega,I.sub⟩;obtain⟨_,h1,h2⟩:=yx.resolve_left (λh3=>by rw[h]at h3;cases h3.1);exact⟨h1,by rw[eu,ag aj,ag ao,ag ay,ag bN,dM,c8,h2]⟩
theorem EL {n:Nat}(h:p.ops[aO]?=some o):qP p fr b (n+1) g aO=if (eu p fr b g aO o).2.2 then qP p fr b n (eu p fr b g aO o).1 (eu p fr b g aO o).2.1 else (eu p fr b g aO o).1:=by
 rw[qP];simp only[h]
theorem EM {n:Nat}(h:p.ops.length≤aO):qP p fr b n g aO=g:=by
 cases n with
 | zero=>rfl
 | succ n=>rw[qP];simp only[jt h]
set_option maxHeartbeats 4000000 in
theorem KE {M:yE W t ad uY fs J}(I:U W w (J g bad::aA W p aq cO::L))(a6:dm p)(aH:p.title.size≤1000000000)(hb:b.length≤1099511627776)(hp:∀ w',U W w' L→aX w' adP b.length b) :
   Calls prog 174 #[.agg (bO p aq cO).toArray,.iface t (.pointer (some ad)),.int .i64 fr,.slice adP b.length cP] w λe w'=>∃ (g':Nat→Int) (fv:Bool) (n:Int),e=.returned (.int .i64 n)∧(fv=false→bad=false∧g'=e7 p fr b g) ∧
    U W w' (J g' fv::aA W p aq cO::L):=by
 have ea:p.ops.length≤64:=a6.1.2.2.1;refine EN func174 ntmps174 rfl rfl λa E=>?_;refine BX 1 E I λb4 a w E I=>?_;change U W w (aa b4 45 (bO p aq cO)::_) at I;refine RN 6 E I λa E=>?_;replace E:=E.aP 13;refine bh 1 E I (EI (I.pick (aA W p aq cO)) aH (by omega)) λr a w E ⟨hr,I⟩=>?_;rw[hr.2 a6]at E;refine RN 1 E I λa E=>?_;rw[show (!true)=false from rfl]at E;refine RN 1 E I λa E=>?_;replace E:=E.aP 17;refine RN 3 E I λa E=>?_;change Fr a 42 ((18,.agg (List.toArray [.string p.title,.slice aq p.ops.length cO]))::_) at E;refine BX 4 E I λyI a w E I=>?_;change U W w (aa yI 336 (hZ p aq cO t ad fr adP b.length cP 0)::_) at I;refine RN 4 E I λa E=>?_;refine aN (λμ a w=>∃ (n aO:Nat) (g':Nat→Int) (fv:Bool),(μ=200-n∧n≤200∧aO≤p.ops.length∧(fv=false→bad=false∧qP p fr b (200-n) g' aO=e7 p fr b g))∧Fr a 42 [(4,pt b4),(9,pt yI),(10,.int .i64 n)]∧U W w (aa yI 336 (hZ p aq cO t ad fr adP b.length cP aO)::aa b4 45 (bO p aq cO)::J g' fv::aA W p aq cO::L)) (200) (⟨0,0,g,bad,⟨by simp,by simp,by simp,λh=>⟨h,rfl⟩⟩,E.ab [4,9,10],I.sub⟩) ?_;clear E I;rintro μ a w ⟨n,aO,g',fv,⟨rfl,hn,e8,o0⟩,E,I⟩;refine bR 2 [8,9] [0,1,2,3,4,5,7,3006,1008,1009,10,11] E I λa w E I hH hC=>?_;refine RH 3 E I hH hC λa E=>?_;refine E.by (s:=26) (λbA E=>?_) (λbA E=>?_)
 ·
  refine RH 9 E I hH hC λa E=>?_;refine IF 0 E I (λao a E=>?_) λao a E=>?_
  ·
   obtain⟨o,ho⟩:∃ o,p.ops[aO]?=some o:=⟨_,aD (by omega)⟩;have aS:=EL (p:=p) (fr:=fr) (b:=b) (g:=g') (n:=200-(n+1)) ho;rw[show 200-(n+1)+1=200-n from by omega]at aS;refine j4 6 E I (Xg (M:=M) (L:=aa b4 45 (bO p aq cO)::L) (I.sub (M:=aa yI 336 (hZ p aq cO t ad fr adP b.length cP aO)::J g' fv::aA W p aq cO::aa b4 45 (bO p aq cO)::L)) a6.2 ho aH (by omega) hb (λw' h=>hp w' h.tail)) ?_;clear E I;rintro e w ⟨hS,yH,A4,r2,rfl,fU,Xi,I⟩;refine⟨_,rfl,λa E=>?_⟩;refine IF 1 E I (λay a E=>?_) λay a E=>?_
   ·
    have wA:r2=false:=by simpa using ay
    have EO:A4=false→bad=false∧hS=e7 p fr b g:=λh=>by
     obtain⟨h1,h2⟩:=fU h;obtain⟨h3,h4⟩:=o0 h1;refine⟨h3,?_⟩;rw[aS,h2,wA]at h4;exact h4
    refine RT 3 E I ?_;exact⟨hS,A4,_,rfl,EO,I.sub⟩
   have pX:r2=true:=by simpa using ay
   refine RN 0 E I λa E=>?_;refine⟨200-(n+1),by omega,n+1,yH,hS,A4,⟨rfl,by omega,Xi,λh=>?_⟩,E.ab [4,9,10],I.sub⟩;obtain⟨h1,h2⟩:=fU h;obtain⟨h3,h4⟩:=o0 h1;refine⟨h3,?_⟩;rw[aS,h2,pX]at h4;exact h4
  refine RT 3 E I ?_;refine⟨g',fv,_,rfl,λh=>?_,I.sub⟩;obtain⟨h3,h4⟩:=o0 h;rw[EM (by omega)]at h4;exact⟨h3,h4⟩
 have pZ:n=200:=by omega
 refine RH 9 E I hH hC λa E=>?_;refine RT 4 E I ?_;refine⟨g',fv,_,rfl,λh=>?_,I.sub⟩;obtain⟨h3,h4⟩:=o0 h;rw[pZ]at h4;exact⟨h3,h4⟩
end
end
section
def distinct:List Nat→Nat
 | []=>0
 | x::l=>distinct l+if x∈l then 0 else 1
def lg (l:List aC):List Nat:=l.flatMap λx=>[x.p 0,x.p 1,x.p 2,x.p 3]
theorem Xj {l:List aC}{p:Nat}:p∈lg l↔0<cS l p:=by
 induction l with
 | nil=>simp[lg,cS]
 | cons x l ih =>
  rw[tg];have h1:lg (x::l)=[x.p 0,x.p 1,x.p 2,x.p 3]++lg l:=rfl;rw[h1,eT,ih];constructor
  ·rintro (h | h)
   ·have h2 : 0 < hU x p := JE.2 (by
     simp at h;rcases h with h | h | h | h
     ·exact⟨0,by omega,h.symm⟩
     ·exact⟨1,by omega,h.symm⟩
     ·exact⟨2,by omega,h.symm⟩
     ·exact⟨3,by omega,h.symm⟩)
    omega
   ·omega
  ·intro h;by_cases h2:0<hU x p
   ·left;obtain⟨k,hk,rfl⟩:=JE.1 h2;rcases (by omega:k=0∨k=1∨k=2∨k=3) with rfl | rfl | rfl | rfl <;> simp
   ·right;omega
theorem Xk (n:Nat)(f:Nat→Bool)(x:Nat)(hx:x<n)(h0:f x=false):(List.range n).countP (λp=>p==x||f p)=(List.range n).countP f+1:=by
 induction n with
 | zero=>omega
 | succ n ih =>
  rw[range_succ,List.countP_append,List.countP_append,List.countP_singleton,List.countP_singleton];by_cases hn:x=n
  ·subst hn;have:(List.range x).countP (λp=>p==x||f p)=(List.range x).countP f:=countP_congr λp hp=>by
    have:p<x:=mem_range.1 hp;have h2:(p==x)=false:=by simp;omega
    simp[h2]
   rw[this,h0];simp
  ·have h2:(n==x)=false:=by simp;omega
   rw[ih (by omega),h2];simp;omega
theorem KF (n:Nat):∀ l:List Nat,(∀ p∈l,p<n)→(List.range n).countP (λp=>decide (p∈l))=distinct l
 | [],_=>by simp[distinct]
 | x::l,h=>by
  have ih:=KF n l λp hp=>h p (gF _ hp);rw[distinct,← ih];by_cases hx:x∈l
  ·rw[ak hx,Nat.add_zero];refine countP_congr λp _=>?_;simp only[List.mem_cons,oB];exact⟨λhp=>by rcases hp with rfl | hp;exact hx;exact hp,λhp=>.inr hp⟩
  ·rw[ag hx];have:=Xk n (λp=>decide (p∈l)) x (h x iJ) (by simp[hx]);rw[← this];refine countP_congr λp _=>?_;simp
theorem Xl {A:Sn}(h:∀ x∈A.ar,∀ k,k<4→x.p k<A.room):A.used=distinct (lg A.ar):=by
 rw[← KF A.room (lg A.ar) (λp hp=>?_)]
 ·rw[Sn.used];refine countP_congr λp _=>?_;simp[Xj]
 ·simp only[lg,List.mem_flatMap]at hp;obtain⟨x,hx,hp⟩:=hp;simp at hp;rcases hp with rfl | rfl | rfl | rfl <;> exact h x hx _ (by omega)
section
variable {W w:World}{L R:List SP}{q r:Nat}{A:Sn}
class wS (L:List SP)(q:Nat)(r:outParam Nat)(A:outParam Sn)(R:outParam (List SP)):Prop where perm:L.Perm (ax q r A::R)
instance wS.head {L q r A}:wS (ax q r A::L) q r A L:=⟨lE _⟩
instance (priority:=low) wS.tail {B L q r A R}[h:wS L q r A R]:wS (B::L) q r A (B::R):=⟨(kz B h.perm).trans (cZ _ _ _)⟩
theorem U.store (I:U W w L)(q:Nat)[k:wS L q r A R]:U W w (ax q r A::R):=I.perm k.perm
theorem ax.facts (I:U W w (ax q r A::L)):WF A∧∀ x∈A.ar,∀ k,k<4→x.p k<A.room:=by
 obtain⟨b,m,ps,xs,h1,hw,hr,I⟩:=ax.open I;exact⟨hw,λx hx k hk=>by rw[← hr.len];exact (hr.live hx hk).1⟩
theorem ax.used (I:U W w (ax q r A::L)):A.used=distinct (lg A.ar):=Xl (ax.facts I).2
end
end
section
theorem Xm (l:List aC)(p:Nat):(lg l).count p=cS l p:=by
 induction l with
 | nil=>rfl
 | cons x l ih =>
  have h1:lg (x::l)=[x.p 0,x.p 1,x.p 2,x.p 3]++lg l:=rfl;rw[h1,List.count_append,ih,tg,uJ];simp only[List.count_cons,List.count_nil,beq_iff_eq];omega
theorem KG (p:Nat):∀ l:List Nat,distinct l+(l.count p-1)≤l.length
 | []=>by simp[distinct]
 | x::l=>by
  have ih:=KG p l;rw[distinct,List.count_cons,eH];by_cases hx:x=p
  ·subst hx;by_cases hm:x∈l
   ·have:=List.count_pos_iff.2 hm;simp[hm];omega
   ·have:=List.count_eq_zero.2 hm;simp[hm];omega
  ·have h1:(x==p)=false:=by simpa using hx
   simp only[h1,Bool.false_eq_true,if_false,Nat.add_zero];split <;> omega
theorem Xn (l:List aC):(lg l).length=4*l.length:=by
 induction l with
 | nil=>rfl
 | cons x l ih =>
  have h1:lg (x::l)=[x.p 0,x.p 1,x.p 2,x.p 3]++lg l:=rfl;rw[h1,aJ,ih,eH];simp;omega
section
variable {W w:World}{L:List SP}{q r i bc:Nat}{A:Sn}{x px:aC}
theorem ax.shared (I:U W w (ax q r A::L)){p:Nat}(h:1<cS A.ar p):A.used<4*A.ar.length:=by
 have h1:=KG p (lg A.ar);rw[← ax.used I,Xm,Xn]at h1;omega
theorem Xo {c:Nat}{v:Int}(I:U W w (ax q r A::L))(hx:A.ar[i]?=some x)(hc:c<32) :
   Calls prog 346 #[pt q,.int .i64 x.id,.int .i64 c,.int .i32 v] w λe w'=>∃ (ok:Bool) (p':Nat→Nat),e=.returned (.bool ok)∧(ok=false→¬ 4*A.ar.length≤A.room) ∧
    ((ok=true∧U W w' (ax q r { A with ar:=A.ar.set i { x with g:=ck x.g c v,p:=p' } }::L))∨(ok=false∧U W w' (ax q r A::L))):=by
 have mX:c/8<4:=by omega
 by_cases h1:1<cS A.ar (x.p (c/8))
 ·by_cases hu:A.used<A.room
  ·exact (Vt (v:=v) I hx hc h1 hu).mono λe w' ⟨f,h2,_,I⟩=>⟨true,λj=>if j=c/8 then f else x.p j,h2,λh=>(by cases h),.inl ⟨rfl,I⟩⟩
  ·have hsh:=ax.shared I h1;exact (Vu (v:=v) I hx hc h1 (by omega)).mono λe w' ⟨h2,I⟩=>⟨false,x.p,h2,λ_=>by omega,.inr ⟨rfl,I⟩⟩
 ·have h3 : cS A.ar (x.p (c / 8)) = 1 := by
   have h4:=uK (bF hx) (x.p (c/8));have h5:=tf (x:=x) mX;omega
  exact (Vr (v:=v) I hx hc h3).mono λe w' ⟨h2,I⟩=>⟨true,x.p,h2,λh=>(by cases h),.inl ⟨rfl,I⟩⟩
theorem Xp {g:Nat→Int}{c:Nat}{v:Int}(h:dS g)(hv:ds v):dS (ck g c v):=λj hj=>by
 simp only[ck];split
 ·exact hv
 ·exact h j hj
def Jw (q r bc i:Nat)(A:Sn)(px:aC)(g:Nat→Int)(bad:Bool):SP:=λh=>∃ p':Nat→Nat,(dS g∧(bad=true→¬ 4*A.ar.length≤A.room)) ∧
 cm [aa bc 307 [pt q,.int .i64 px.id,.bool bad],ax q r { A with ar:=A.ar.set i ⟨px.id,px.refs,g,p'⟩ }] h
theorem Jw.open {g:Nat→Int}{bad:Bool}(I:U W w (Jw q r bc i A px g bad::L)):∃ p':Nat→Nat,(dS g∧(bad=true→¬ 4*A.ar.length≤A.room)) ∧
   U W w (aa bc 307 [pt q,.int .i64 px.id,.bool bad]::ax q r { A with ar:=A.ar.set i ⟨px.id,px.refs,g,p'⟩ }::L):=by
 obtain⟨p',h1,h2⟩:=I.jM (ι:=Nat→Nat) (p:=λ_=>dS g∧(bad=true→¬ 4*A.ar.length≤A.room)) (B:=λp' h=>cm [aa bc 307 [pt q,.int .i64 px.id,.bool bad],ax q r { A with ar:=A.ar.set i ⟨px.id,px.refs,g,p'⟩ }] h) (λh ⟨p',h1,h2⟩=>⟨p',h1,h2⟩);exact⟨p',h1,h2.open λ_ h=>h⟩
theorem Jw.close {g:Nat→Int}{bad:Bool}{p':Nat→Nat}(I:U W w (aa bc 307 [pt q,.int .i64 px.id,.bool bad]::ax q r { A with ar:=A.ar.set i ⟨px.id,px.refs,g,p'⟩ }::L))(h1:dS g)(h2:bad=true→¬ 4*A.ar.length≤A.room) :
   U W w (Jw q r bc i A px g bad::L):=U.shut (M:=[_,_]) I (λ_ x=>⟨p',⟨h1,h2⟩,x⟩)
theorem Xq {g:Nat→Int}{bad:Bool}{c:Nat}(hx:i<A.ar.length)(hc:c<32)(I:U W w (Jw q r bc i A px g bad::L)) :
   Calls prog 353 (List.toArray [pt bc,.int .i64 c]) w λe w'=>e=.returned (.int .i32 (g c))∧U W w' (Jw q r bc i A px g bad::L):=by
 obtain⟨p',⟨h1,h2⟩,I⟩:=Jw.open I;refine EN func353 ntmps353 rfl rfl λa E=>?_;refine bR 3 [7] [0,1,2,4,5,6,8,3003,1007,1009,10,11,12,13,14] E I λa w E I hH hC=>?_;refine RH 9 E I hH hC λa E=>?_;refine CL 0 E I (JL (i:=i) (x:=⟨px.id,px.refs,g,p'⟩) (I.store q) (by simp[hx]) hc) λa w E I=>?_;refine RN 5 E I λa E=>?_;refine RT 3 E I ?_;exact⟨rfl,Jw.close (p':=p') I.sub h1 h2⟩
theorem Xr {g:Nat→Int}{bad:Bool}{c:Nat}{v:Int}(hx:i<A.ar.length)(hc:c<32)(hv:ds v)(I:U W w (Jw q r bc i A px g bad::L)) :
   Calls prog 354 (List.toArray [pt bc,.int .i64 c,.int .i32 v]) w λe w'=>∃ (g':Nat→Int) (fv:Bool),e=.returned (.tuple #[])∧((fv=true∧g'=g)∨(fv=false∧bad=false∧g'=ck g c v))∧U W w' (Jw q r bc i A px g' fv::L):=by
 obtain⟨p',⟨h1,h2⟩,I⟩:=Jw.open I;refine EN func354 ntmps354 rfl rfl λa E=>?_;refine bR 0 [13] [0,1,2,3,1004,5,6,7,8,10,11,12,14,15,3009,1013,1016,17,18,19,20,1021] E I λa w E I hH hC=>?_;refine RH 6 E I hH hC λa E=>?_;refine E.by (s:=11) (λjj E=>?_) (λjj E=>?_)
 ·
  refine RH 15 E I hH hC λa E=>?_;refine ST 0 E I (λa w E I=>?_);refine RT 0 E I ?_;exact⟨g,true,rfl,.inl ⟨rfl,rfl⟩,Jw.close (p':=p') I.sub h1 (λ_=>h2 jj)⟩
 refine RH 10 E I hH hC λa E=>?_;refine aZ 0 E I (Xo (i:=i) (x:=⟨px.id,px.refs,g,p'⟩) (v:=v) (I.store q) (by simp[hx]) hc) λok p2 a w E ⟨dr,Xs⟩=>?_;obtain⟨JW,I⟩:(ok=ok)∧U W w (ax q r { A with ar:=A.ar.set i ⟨px.id,px.refs,if ok then ck g c v else g,if ok then p2 else p'⟩ }::aa bc 307 [pt q,.int .i64 px.id,.bool bad]::L):=by
  refine⟨rfl,?_⟩;rcases Xs with ⟨rfl,I⟩ | ⟨rfl,I⟩
  ·simp only[set_set]at I;exact I
  ·exact I
 refine ST 4 E I (λa w E I=>?_);refine RT 0 E I ?_;refine⟨if ok then ck g c v else g,!ok,rfl,?_,Jw.close (p':=if ok then p2 else p') I.sub ?_ (λh=>?_)⟩
 ·cases ok
  ·exact .inl ⟨rfl,rfl⟩
  ·exact .inr ⟨rfl,jj,rfl⟩
 ·cases ok
  ·exact h1
  ·exact Xp h1 hv
 ·have:=dr (by simpa using h);simpa using this
theorem Xt (hx:i<A.ar.length):yE W 305 ⟨bc,0,none⟩ 353 354 (Jw q r bc i A px) where
 oV:=λad w=>by kernel_rfl
 oW:=(by kernel_rfl)
 AZ:=λad w=>by kernel_rfl
 wu:=(by kernel_rfl)
 ok:=λw L g bad h=>by obtain⟨_,⟨h1,_⟩,_⟩:=Jw.open h;exact h1
 get:=λw L g bad c hc h=>Xq hx hc h
 set:=λw L g bad c v hc hv h=>Xr hx hc hv h
end
end
section
abbrev cx (p:Pr)(aq:Option Addr)(cO tq jq sq:Nat)(k:Wk):List Value :=
 [.string p.title,.slice aq p.ops.length cO,pt tq,pt jq,pt sq,.bool k.busy,.int .i64 k.jb,.int .i64 k.je,.int .i64 k.x,.int .i64 k.done,.bool k.mS]
section
variable {W w:World}{L:List SP}{tq jq sq r wb i kk cO:Nat}{aq:Option Addr}{A:Sn}{T:Tr}{J:Js}{k:Wk}{p:Pr}{x:Br}{px:aC}
theorem KH (I:U W w (aa wb 247 (cx p aq cO tq jq sq k)::L)) :
   Calls prog 184 #[pt wb] w λe w'=>e=.returned (.bool k.busy)∧U W w' (aa wb 247 (cx p aq cO tq jq sq k)::L):=by
 refine EN func184 ntmps184 rfl rfl λa E=>?_;refine RN 6 E I λa E=>?_;replace E:=E.ed 5;refine RT 6 E I ?_;exact⟨rfl,I⟩
theorem yJ (I:U W w (aa wb 247 (cx p aq cO tq jq sq k)::ax sq r A::L))(hb:k.busy=true) :
   Calls prog 145 #[pt wb] w λe w'=>e=.returned (.bool true)∧U W w' (aa wb 247 (cx p aq cO tq jq sq { k with busy:=false })::ax sq r (A.eB k.x)::L):=by
 refine EN func145 ntmps145 rfl rfl λa E=>?_;refine CL 5 E I (KH I) λa w E I=>?_;rw[hb]at E;refine RN 1 E I λa E=>?_;replace E:=E.aP 5;refine bR 2 [7] [0,1,2,4,5,6,3003,1007,1008] E I λa w E I hH hC=>?_;refine RH 8 E I hH hC λa E=>?_;refine bh 0 E I (AO (I.store sq)) λv a w E I=>?_;refine ST 4 E I (λa w E I=>?_) (hlt:=(by simp[cx]));change U W w (aa wb 247 (cx p aq cO tq jq sq { k with busy:=false })::_) at I;refine RT 2 E I ?_;exact⟨rfl,I.sub⟩
theorem KI (I:U W w (aa wb 247 (cx p aq cO tq jq sq k)::L))(hb:k.busy=false) :
   Calls prog 145 #[pt wb] w λe w'=>e=.returned (.bool false)∧U W w' (aa wb 247 (cx p aq cO tq jq sq k)::L):=by
 refine EN func145 ntmps145 rfl rfl λa E=>?_;refine CL 5 E I (KH I) λa w E I=>?_;rw[hb]at E;refine RN 1 E I λa E=>?_;replace E:=E.ed 5;refine RT 3 E I ?_;exact⟨rfl,I⟩
theorem A5 {id:Int}(I:U W w (Tree tq sq T::L)) :
   Calls prog 143 #[pt tq,.int .i64 id] w λe w'=>∃ (x:Br) (ad:Option Addr) (c:Nat) (ok:Bool),e=.returned (.tuple #[.agg (ch x ad c).toArray,.bool ok])∧((ok=true∧x∈T.l∧(x.id:Int)=id)∨(ok=false∧∀ y∈T.l,(y.id:Int)≠id)) ∧
    U W w' (cg ad x.al.length c x.al::Tree tq sq T::L):=by
 by_cases h:∃ x∈T.l,(x.id:Int)=id
 ·obtain⟨x,hx,rfl⟩:=h;obtain⟨k,hk⟩:=j7.1 hx;exact (yl I hk).mono λe w' ⟨ad,c,h1,I⟩=>⟨x,ad,c,true,h1,.inl ⟨rfl,hx,rfl⟩,I⟩
 ·have hn:∀ y∈T.l,(y.id:Int)≠id:=λy hy e=>h ⟨y,hy,e⟩;exact (VP I hn).mono λe w' ⟨h1,I⟩=>⟨⟨0,0,[],0,0⟩,none,0,false,h1,.inr ⟨rfl,hn⟩,cg.nil I⟩
theorem Xu {id:Nat}(I:U W w (ax sq r A::L))(hx:A.ar[i]?=some px)(b6:px.id=id)(hb:A.n+1<1099511627776) :
   Calls prog 181 #[pt sq,.int .i64 id] w λe w'=>e=.returned (.tuple #[.int .i64 ((A.last+1:Nat):Int),.bool true])∧U W w' (ax sq r (A.add px.g px.p)::L):=by
 subst b6;exact JO I hx hb
theorem Xv {d:Nat}{id:Nat}(I:U W w (Tree tq sq T::ax sq r A::L))(hx:T.l[kk]?=some x)(kM:d≤x.al.length)(hp:A.ar[i]?=some px)(b6:px.id=id) :
   Calls prog 186 #[pt tq,.int .i64 x.id,.int .i64 d,.int .i64 id] w λe w'=>e=.returned (.bool (decide (x.done<d))) ∧
    ((x.done<d∧U W w' (Tree tq sq (T.iO kk x d id)::ax sq r (A.eB x.snap)::L))∨(d≤x.done∧U W w' (Tree tq sq T::ax sq r A::L))):=by
 subst b6;by_cases h:x.done<d
 ·exact (VW I hx h kM hp).mono λe w' ⟨h1,I⟩=>⟨by rw[h1,dk h],.inl ⟨h,I⟩⟩
 ·exact (VU (d:=(d:Int)) (i:=i) (px:=px) I hx (.inl (by omega))).mono λe w' ⟨h1,I⟩=>⟨by rw[h1,bo h],.inr ⟨by omega,I⟩⟩
theorem Xw {A:Sn}{i:Nat}{px:aC}{g:Nat→Int}{p':Nat→Nat}(hA:WF A)(hB:WF { A with ar:=A.ar.set i ⟨px.id,px.refs,g,p'⟩ })(hi:A.ar[i]?=some px)(hr:px.refs=1) :
   ({ A with ar:=A.ar.set i ⟨px.id,px.refs,g,p'⟩ }:Sn).eB px.id=A.eB px.id:=by
 have hl:=(aY.1 hi).1;rw[yp hA hi,yp (px:=⟨px.id,px.refs,g,p'⟩) hB (i:=i) (by simp[hl])];simp[Sn.drop,hr,eraseIdx_set_eq]
theorem Xx (I:U W w (aa wb 247 (cx p aq cO tq jq sq k)::Tree tq sq T::ax sq r A::bI jq J::L))(hb:k.busy=false)(Xy:∀ x∈T.l,∃ (i:Nat) (px:aC),A.ar[i]?=some px∧px.id=x.snap)(hn:A.n+1<1099511627776) :
   Calls prog 142 #[pt wb] w λe w'=>∃ (z:Bool) (A':Sn) (J':Js) (k':Wk),e=.returned (.bool z)∧lN p A T J k z A' T J' k' ∧
    U W w' (aa wb 247 (cx p aq cO tq jq sq k')::Tree tq sq T::ax sq r A'::bI jq J'::L):=by
 refine EN func142 ntmps142 rfl rfl λa E=>?_;refine CL 7 E I (Wt (I.uU jq)) λa w E I=>?_;refine AL 3 E I λb3 a w E I=>?_;refine SA 0 E I λa w E I=>?_;refine IF 5 E I (λaj a E=>?_) λaj a E=>?_
 ·
  obtain rfl:J=[]:=by simpa using aj
  change U W w (aa b3 245 [.int .i64 0,.int .i64 0]::bI jq []::_) at I;refine RT 2 E I ?_;exact⟨false,A,[],k,rfl,.idle hb rfl,I.sub⟩
 obtain⟨j,J',rfl⟩:∃ j J',J=j::J':=by
  cases J with
  | nil=>simp at aj
  | cons j J'=>exact⟨j,J',rfl⟩
 change U W w (aa b3 245 [.int .i64 j.1,.int .i64 j.2]::bI jq J'::_) at I;replace E:=E.ab [0,3];clear aj;refine RN 0 E I λa E=>?_;refine cc (M:=λa w=>∃ (b5:Nat) (x:Br) (ad:Option Addr) (c:Nat) (ok:Bool),((ok=true∧x∈T.l∧(x.id:Int)=j.1)∨(ok=false∧∀ y∈T.l,(y.id:Int)≠j.1))∧Fr a 85 [(0,pt wb),(3,pt b3),(5,pt b5),(6,.bool ok)]∧U W w (aa b5 238 (ch x ad c)::aa b3 245 [.int .i64 j.1,.int .i64 j.2]::bI jq J'::aa wb 247 (cx p aq cO tq jq sq k)::Tree tq sq T::ax sq r A::L)) ?_ ?_
 ·
  refine aV 0 (λw0 w'=>Rd w' wb 0 (cx p aq cO tq jq sq k)∧Rd w' b3 0 [.int .i64 j.1,.int .i64 j.2]) [5,10] [0,1,2,4,3003,3005,2006,7,8,9,1010,1011,12] E I λa w E I hH=>?_;have hC:=hH.at w (And.intro I.ai I.ai);refine RH 4 E I hH hC λa E=>?_;refine QH E (λw hc=>ae E (hc.1 2 _ rfl)) hC λa E=>?_;refine QH E (λw hc=>ae E (hc.2 0 _ rfl)) hC λa E=>?_;refine RH 0 E I hH hC λa E=>?_;refine DN [(6,[7,8,9,1010,1011,12]),(10,[1006,7,8,9,1011,12])] (by kernel_rfl) rfl ⟨⟨_,rfl,?_⟩,⟨_,rfl,?_⟩,trivial⟩
  ·
   refine RH 0 E I hH hC λa E=>?_;refine j4 0 E I (A5 (id:=j.1) (I.tree tq)) ?_;clear E I;rintro e w ⟨x,ad,c,ok,rfl,dr,I⟩;refine⟨_,rfl,λa E=>?_⟩;refine RN 3 E I λa E=>?_;refine eZ E rfl I Ty.t238 rfl λb5 a w E I ho=>?_;clear ho;replace hC:=hH.at w (And.intro I.ai I.ai);refine RH 0 E I hH hC λa E=>?_;refine SA 0 E I λa w E I=>?_;refine RN 1 E I λa E=>?_;exact⟨_,x,ad,c,ok,dr,E.ab [0,3,5,6],I.sub⟩
  refine RH 0 E I hH hC λa E=>?_;refine eZ E rfl I Ty.t238 rfl λb5 a w E I ho=>?_;clear ho;replace hC:=hH.at w (And.intro I.ai I.ai);refine RH 0 E I hH hC λa E=>?_;refine j4 0 E I (A5 (id:=j.1) (I.tree tq)) ?_;clear E I;rintro e w ⟨x,ad,c,ok,rfl,dr,I⟩;refine⟨_,rfl,λa E=>?_⟩;refine SA 3 E I λa w E I=>?_;refine RN 1 E I λa E=>?_;exact⟨_,x,ad,c,ok,dr,E.ab [0,3,5,6],I.sub⟩
 clear E;(try clear I);rintro a w ⟨b5,x,ad,c,ok,dr,E,I⟩;refine aV 2 (λw0 w'=>Rd w' wb 0 (cx p aq cO tq jq sq k)∧Rd w' b3 0 [.int .i64 j.1,.int .i64 j.2]∧Rd w' b5 0 (ch x ad c)) [5,6,16,17] [0,2,3,4,3001,1005,1006,7,8,9,10,11,12,13,15,3014,1016,1017,18,19] E I λa w E I hH=>?_;have hC:=hH.at w ⟨I.ai,I.ai,I.ai⟩;refine RH 4 E I hH hC λa E=>?_;refine QH E (λw hc=>ae E (hc.2.1 1 _ rfl)) hC λa E=>?_;refine RH 1 E I hH hC λa E=>?_;refine CL 0 E I (AK (I.tree tq)) λa w E I=>?_;replace hC:=hH.at w ⟨I.ai,I.ai,I.ai⟩;refine RH 2 E I hH hC λa E=>?_;refine E.by (s:=36) (λfh E=>?_) (λfh E=>?_)
 ·
  refine RH 11 E I hH hC λa E=>?_;refine RT 3 E I ?_;exact⟨true,A,J',k,rfl,.yu hb rfl (.inl fh),I.sub⟩
 refine RH 4 E I hH hC λa E=>?_;refine E.by (s:=40) (λiq E=>?_) (λiq E=>?_)
 ·
  have bQ:∀ y∈T.l,(y.id:Int)≠j.1:=by
   rcases dr with ⟨h,_⟩ | ⟨_,h⟩
   ·rw[h]at iq;cases iq
   ·exact h
  refine RH 7 E I hH hC λa E=>?_;refine RT 3 E I ?_;exact⟨true,A,J',k,rfl,.yu hb rfl (.inr (.inl bQ)),I.sub⟩
 obtain⟨hx,b6⟩:x∈T.l∧(x.id:Int)=j.1:=by
  rcases dr with ⟨_,h⟩ | ⟨h,_⟩
  ·exact h
  ·rw[h]at iq;cases iq
 refine RH 2 E I hH hC λa E=>?_;refine QH E (λw hc=>ae E (hc.2.2 3 _ rfl)) hC λa E=>?_;refine RH 0 E I hH hC λa E=>?_;refine bw E (cw E rfl (s:=40)) (ae E (hC.2.2 2 _ rfl)) rfl λa E=>?_;refine RH 3 E I hH hC λa E=>?_;refine IF 0 E I (λao a E=>?_) λao a E=>?_
 ·
  refine RT 2 E I ?_;exact⟨true,A,J',k,rfl,.yu hb rfl (.inr (.inr ⟨x,hx,b6,by omega⟩)),I.sub⟩
 refine RN 1 E I λa E=>?_;obtain⟨i,px,hY,lh⟩:=Xy x hx;refine aV 0 (λw0 w'=>Rd w' wb 0 (cx p aq cO tq jq sq k)∧Rd w' b5 0 (ch x ad c)) [5] [0,1,2,4,3003,1005,1006,7,8,9,10,11] E I λa w E I hH=>?_;have hC:=hH.at w ⟨I.ai,I.ai⟩;refine RH 4 E I hH hC λa E=>?_;refine QH E (λw hc=>ae E (hc.1 4 _ rfl)) hC λa E=>?_;refine RH 0 E I hH hC λa E=>?_;refine SS E (ae E (hC.2 4 _ rfl)) λa E=>?_;refine RH 0 E I hH hC λa E=>?_;refine CL 0 E I (Xu (I.store sq) hY lh hn) λa w E I=>?_;refine RN 5 E I λa E=>?_;refine RN 4 E I λa E=>?_;replace E:=E.aP 59;refine aV 2 (λw0 w'=>Rd w' b3 0 [.int .i64 j.1,.int .i64 j.2]∧Rd w' b5 0 (ch x ad c)) [8,11,12,13,14,15,16,17] [0,1,2,3,4,6,7,9,10,3005,3008,1011,1012,1013,1014,1015,1016,1017,18,19,1020,21,22,1023] E I λa w E I hH=>?_;have hC:=hH.at w ⟨I.ai,I.ai⟩;refine RH 9 E I hH hC λa E=>?_;refine QH E (λw hc=>bT E underlying245 rfl Ty.t245 (hc.1)) hC λa E=>?_;refine QH E (λw hc=>ae E (hc.2 3 _ rfl)) hC λa E=>?_;refine RH 0 E I hH hC λa E=>?_;refine ST 0 E I (λa w E I=>?_) (hlt:=(by simp[cx]));replace hC:=hH.at w ⟨I.ai,I.ai⟩;refine RH 2 E I hH hC λa E=>?_;refine ru E rfl I Ty.t245 (by simp[Value.oneCell']) (by simp[cx]) λa w E I=>?_;replace hC:=hH.at w ⟨I.ai,I.ai⟩;refine RH 2 E I hH hC λa E=>?_;refine ST 0 E I (λa w E I=>?_) (hlt:=(by simp[cx,cG]));replace hC:=hH.at w ⟨I.ai,I.ai⟩;refine RH 2 E I hH hC λa E=>?_;refine ST 0 E I (λa w E I=>?_) (hlt:=(by simp[cx,cG]));refine ST 2 E I (λa w E I=>?_) (hlt:=(by simp[cx,cG]));refine RN 0 E I λa E=>?_;change U W w (aa wb 247 (cx p aq cO tq jq sq ⟨true,j.1,j.2,A.last+1,x.done,false⟩)::_) at I;refine RT 2 E I ?_;exact⟨true,A.add px.g px.p,J',⟨true,j.1,j.2,A.last+1,x.done,false⟩,rfl,.En hb rfl fh hx b6 (by omega) hY lh,I.sub⟩
theorem Xz {ad:Option Addr}{c:Nat}(I:U W w (aa wb 247 (cx p aq cO tq jq sq k)::cg ad x.al.length c x.al::Tree tq sq T::ax sq r A::bI jq J::aA W p aq cO::L))
   (hb:k.busy=true) (he:k.je=T.epoch) (hx:x∈T.l) (b6:(x.id:Int)=k.jb) (eo:k.mS=false) (hi:A.ar[i]?=some px) (yK:px.id=k.x) (hr:px.refs=1) (hg:dS px.g) (hd:k.done<x.al.length) (hf:0≤x.frm∧x.frm≤1099511627776)
   (a6:dm p) (aH:p.title.size≤1000000000) (kP:J.length≤16) :
   Calls prog 146 #[pt wb,.agg (ch x ad c).toArray] w λe w'=>∃ (A':Sn) (J':Js) (k':Wk),e=.returned (.tuple #[])∧lN p A T J k true A' T J' k' ∧
    U W w' (aa wb 247 (cx p aq cO tq jq sq k')::Tree tq sq T::ax sq r A'::bI jq J'::aA W p aq cO::L):=by
 have lj:=Tree.wt (I.tree tq);have hA:=(ax.facts (I.store sq)).1;have A6:=(lj.ok x hx).1;have aI:=(aY.1 hi).1;have mT:x.al.length≤65536:=A6.1;refine EN func146 ntmps146 rfl rfl λa E=>?_;refine BX 1 E I λb3 a w E I=>?_;change U W w (aa b3 238 (ch x ad c)::_) at I;refine bR 1 [7] [0,1,2,4,5,6,3003,1007,8,1009,10] E I λa w E I hH hC=>?_;refine RH 9 E I hH hC λa E=>?_;refine xW E rfl I rfl λeO a w E I ho=>?_;replace hC:=hC.trans ho;clear ho;change U W w (aa eO 307 [pt sq,.int .i64 k.x,.bool false]::_) at I;refine RH 1 E I hH hC λa E=>?_;refine RN 1 E I λa E=>?_;obtain⟨zs,hz,iL,I⟩:=cg.open (I.pick (cg ad x.al.length c x.al));obtain⟨bb,oo,rfl,c9⟩:=I.drew.bU ad (by omega);have KJ:zs.length=x.al.length:=by rw[← hz,a8]
 have KK:zs[k.done]?=some (zs[k.done]'(by omega)):=aD (by omega);have KL:x.al[k.done]?=some (zs[k.done]'(by omega)).2.2:=by rw[← hz,bl,KK];rfl
 have mL:=c9 k.done _ (by rw[bl,KK];rfl);have EP:Rd w.drew wb 0 (cx p aq cO tq jq sq k):=I.drew.ai;have lQ:Rd w.drew wb 0 (bO p aq cO):=EP.part 0 2;have KM:Rd w.drew b3 0 (ch x (some ⟨bb,oo,none⟩) c):=I.drew.ai;have XA:(zs[k.done]'(by omega)).2.2.length≤1099511627776:=A6.2 _ (bF KL);refine rG 0 (λw'=>Rd w' wb 0 (cx p aq cO tq jq sq k)∧Rd w' wb 0 (bO p aq cO)∧Rd w' b3 0 (ch x (some ⟨bb,oo,none⟩) c)∧w'.cell? ⟨bb,oo+k.done,none⟩=some (aM (zs[k.done]'(by omega)))) [5,7,11,12,14,18,19,20] [0,1,2,4,6,8,9,10,13,15,16,17,3003,3007,3011,3012,3014,3018,3019,3020,1005,1021] E I λa E=>?_;replace I:=I.drew;generalize w.drew=w at I mL EP lQ KM ⊢;have hC:=And.intro EP (And.intro lQ (And.intro KM mL));have hH:=Hd.any (λw'=>Rd w' wb 0 (cx p aq cO tq jq sq k)∧Rd w' wb 0 (bO p aq cO)∧Rd w' b3 0 (ch x (some ⟨bb,oo,none⟩) c)∧w'.cell? ⟨bb,oo+k.done,none⟩=some (aM (zs[k.done]'(by omega))));refine RH 12 E I hH hC λa E=>?_;refine QH E (λw hc=>bT E underlying45 rfl Ty.t45 (hc.2.1)) hC λa E=>?_;refine QH E (λw hc=>ae E (hc.2.2.1 1 _ rfl)) hC λa E=>?_;refine QH E (λw hc=>ae E (hc.1 9 _ rfl)) hC λa E=>?_;refine RH 1 E I hH hC λa E=>?_;refine QH E (λw hc=>ae E (hc.2.2.1 2 _ rfl)) hC λa E=>?_;refine QH E (λw hc=>ae E (hc.1 9 _ rfl)) hC λa E=>?_;refine RH 1 E I hH hC λa E=>?_;refine QH E (λw hc=>ae E (hc.2.2.2)) hC λa E=>?_;refine RH 1 E I hH hC λa E=>?_;have dz:U W w (ax sq r { A with ar:=A.ar.set i ⟨px.id,px.refs,px.g,px.p⟩ }::aa eO 307 [pt sq,.int .i64 k.x,.bool false]::aA W p aq cO::Sl 22 1 (some ⟨bb,oo,none⟩) x.al.length c (zs.map aM)::ah ba zs::aa wb 247 (cx p aq cO tq jq sq k)::aa b3 238 (ch x (some ⟨bb,oo,none⟩) c)::Tree tq sq T::bI jq J::L):=by
  rw[show ({ A with ar:=A.ar.set i ⟨px.id,px.refs,px.g,px.p⟩ }:Sn)=A from by rw[← yk hi]];exact I.sub
 rw[← yK]at dz;have uI:=Jw.close (i:=i) (A:=A) (px:=px) (g:=px.g) (bad:=false) (p':=px.p) (dz.sub (M:=aa eO 307 [pt sq,.int .i64 px.id,.bool false]::ax sq r { A with ar:=A.ar.set i ⟨px.id,px.refs,px.g,px.p⟩ }::aA W p aq cO::Sl 22 1 (some ⟨bb,oo,none⟩) x.al.length c (zs.map aM)::ah ba zs::aa wb 247 (cx p aq cO tq jq sq k)::aa b3 238 (ch x (some ⟨bb,oo,none⟩) c)::Tree tq sq T::bI jq J::L)) hg (λh=>by cases h);refine j3 0 E I (KE (M:=Xt (W:=W) (q:=sq) (r:=r) (bc:=eO) (A:=A) (px:=px) (i:=i) aI) uI a6 aH XA (λw' h=>(U.mJ (h.sub (M:=Sl 22 1 (some ⟨bb,oo,none⟩) x.al.length c (zs.map aM)::ah ba zs::[]))).2 _ (jd _))) λhS A4 tu a w E ⟨o0,I⟩=>?_;obtain⟨p2,⟨bA,XB⟩,I⟩:=Jw.open I;have wT:=(ax.facts (I.store sq)).1;refine RN 0 E I λa E=>?_;refine IF 6 E I (λaj a E=>?_) λaj a E=>?_
 ·
  refine CL 2 E I (yJ (L:=Tree tq sq T::bI jq J::aA W p aq cO::L) (I.sub (M:=aa wb 247 (cx p aq cO tq jq sq k)::ax sq r { A with ar:=A.ar.set i ⟨px.id,px.refs,hS,p2⟩ }::Tree tq sq T::bI jq J::aA W p aq cO::L)) hb) λa w E I=>?_;refine RN 0 E I λa E=>?_;have wU:Rd w wb 6 [.int .i64 k.jb,.int .i64 k.je]:=(I.ai (b:=wb)).part 6 2;refine aV 1 (λw0 w'=>Rd w' wb 0 (cx p aq cO tq jq sq { k with busy:=false })∧Rd w' wb 6 [.int .i64 k.jb,.int .i64 k.je]) [7] [0,1,2,4,5,6,3003,1007,1008] E I λa w E I hH=>?_;replace wU:Rd w wb 6 [.int .i64 k.jb,.int .i64 k.je]:=(I.ai (b:=wb)).part 6 2;have hC:=hH.at w ⟨I.ai,wU⟩;refine RH 6 E I hH hC λa E=>?_;refine QH E (λw hc=>ae E (hc.1 3 _ rfl)) hC λa E=>?_;refine RH 0 E I hH hC λa E=>?_;refine SS E (bT E underlying245 rfl Ty.t245 (hC.2)) λa E=>?_;refine RH 0 E I hH hC λa E=>?_;refine CL 0 E I (AQ (I.uU jq) kP) λa w E I=>?_;change U W w (bI jq (mh J k.jb k.je)::_) at I;refine RT 0 E I ?_;refine⟨A.eB k.x,mh J k.jb k.je,{ k with busy:=false },rfl,.failed hb he hx b6 eo (XB aj),?_⟩;rw[← yK,Xw hA wT hi hr] at *;exact I.sub
 refine ST 3 E I (λa w E I=>?_) (hlt:=(by simp[cx]));change U W w (aa wb 247 (cx p aq cO tq jq sq { k with mS:=true })::_) at I;refine RT 0 E I ?_;obtain⟨_,nR⟩:=o0 aj;subst nR;exact⟨_,J,{ k with mS:=true },rfl,.mS (p':=p2) hb he hx b6 eo hi yK KL bA,I.sub⟩
theorem XC {ad:Option Addr}{c:Nat}(I:U W w (aa wb 247 (cx p aq cO tq jq sq k)::Tree tq sq T::ax sq r A::bI jq J::L))
   (hb:k.busy=true) (he:k.je=T.epoch) (hx:T.l[kk]?=some x) (b6:(x.id:Int)=k.jb) (eo:k.mS=true) (hi:A.ar[i]?=some px) (yK:px.id=k.x) (hd:k.done<x.al.length) (kP:J.length≤16) :
   Calls prog 147 #[pt wb,.agg (ch x ad c).toArray] w λe w'=>∃ (A':Sn) (T':Tr) (J':Js) (k':Wk),e=.returned (.tuple #[])∧lN p A T J k true A' T' J' k' ∧
    U W w' (aa wb 247 (cx p aq cO tq jq sq k')::Tree tq sq T'::ax sq r A'::bI jq J'::L):=by
 have lj:=Tree.wt (I.tree tq);have eI:=bF hx;have dI:=(aY.1 hx).1;have A6:=(lj.ok x eI).1;have mT:x.al.length≤65536:=A6.1;refine EN func147 ntmps147 rfl rfl λa E=>?_;refine BX 1 E I λb3 a w E I=>?_;change U W w (aa b3 238 (ch x ad c)::_) at I;refine aV 2 (λw0 w'=>Rd w' wb 0 (cx p aq cO tq jq sq k)∧Rd w' b3 0 (ch x ad c)) [5,9,10,14] [0,1,2,4,6,7,8,11,12,13,3003,3005,3009,3010,1014,1015] E I λa w E I hH=>?_;have hC:=hH.at w ⟨I.ai,I.ai⟩;refine RH 10 E I hH hC λa E=>?_;refine QH E (λw hc=>ae E (hc.1 2 _ rfl)) hC λa E=>?_;refine QH E (λw hc=>ae E (hc.2 0 _ rfl)) hC λa E=>?_;refine QH E (λw hc=>ae E (hc.1 9 _ rfl)) hC λa E=>?_;refine RH 1 E I hH hC λa E=>?_;refine SS E (ae E (hC.1 8 _ rfl)) λa E=>?_;refine RH 0 E I hH hC λa E=>?_;refine CL 0 E I (Xv (kk:=kk) (d:=k.done+1) (L:=aa wb 247 (cx p aq cO tq jq sq k)::aa b3 238 (ch x ad c)::bI jq J::L) (I.sub (M:=Tree tq sq T::ax sq r A::aa wb 247 (cx p aq cO tq jq sq k)::aa b3 238 (ch x ad c)::bI jq J::L)) hx (by omega) hi yK) λa w E KN=>?_;refine RN 0 E (U.start _) λa E=>?_;refine R8 0 E (U.start _) (λaj a E=>?_) λaj a E=>?_
 ·
  have hlt:x.done<k.done+1:=by simpa using aj
  replace I:=(KN.resolve_right (λh=>by omega)).2;refine ST 3 E I (λa w E I=>?_) (hlt:=(by simp[cx]));change U W w (aa wb 247 (cx p aq cO tq jq sq { k with busy:=false })::_) at I;refine CL 2 E I (KI (k:={ k with busy:=false }) I rfl) λa w E I=>?_;refine RN 0 E I λa E=>?_;refine cc (M:=λa w=>∃ (b4:Nat) (ad2:Option Addr) (c2:Nat),Fr a 55 [(0,pt wb),(4,pt b4),(5,.bool true)]∧U W w (aa b4 238 (ch { x with done:=k.done+1,snap:=k.x } ad2 c2)::aa wb 247 (cx p aq cO tq jq sq { k with busy:=false })::Tree tq sq (T.iO kk x (k.done+1) k.x)::ax sq r (A.eB x.snap)::bI jq J::L)) ?_ ?_
  ·
   refine aV 0 (λw0 w'=>Rd w' wb 0 (cx p aq cO tq jq sq { k with busy:=false })∧Rd w' b3 0 (ch x ad c)) [5,10] [0,1,2,4,3003,3005,2006,7,8,9,1010,1011,12] E I λa w E I hH=>?_;have hC:=hH.at w ⟨I.ai,I.ai⟩;refine RH 4 E I hH hC λa E=>?_;refine QH E (λw hc=>ae E (hc.1 2 _ rfl)) hC λa E=>?_;refine QH E (λw hc=>ae E (hc.2 0 _ rfl)) hC λa E=>?_;refine RH 0 E I hH hC λa E=>?_;refine DN [(6,[7,8,9,1010,1011,12]),(10,[1006,7,8,9,1011,12])] (by kernel_rfl) rfl ⟨⟨_,rfl,?_⟩,⟨_,rfl,?_⟩,trivial⟩
   ·
    refine RH 0 E I hH hC λa E=>?_;refine aZ 0 E I (yl (x:={ x with done:=k.done+1,snap:=k.x }) (k:=kk) (I.tree tq) (by simp[Tr.iO,dI])) λad2 c2 a w E I=>?_;refine RN 3 E I λa E=>?_;refine eZ E rfl I Ty.t238 rfl λb4 a w E I ho=>?_;clear ho;replace hC:=hH.at w (And.intro I.ai I.ai);refine RH 0 E I hH hC λa E=>?_;refine SA 0 E I λa w E I=>?_;refine RN 1 E I λa E=>?_;exact⟨_,ad2,c2,E.ab [0,4,5],I.sub⟩
   refine RH 0 E I hH hC λa E=>?_;refine eZ E rfl I Ty.t238 rfl λb4 a w E I ho=>?_;clear ho;replace hC:=hH.at w (And.intro I.ai I.ai);refine RH 0 E I hH hC λa E=>?_;refine aZ 0 E I (yl (x:={ x with done:=k.done+1,snap:=k.x }) (k:=kk) (I.tree tq) (by simp[Tr.iO,dI])) λad2 c2 a w E I=>?_;refine SA 3 E I λa w E I=>?_;refine RN 1 E I λa E=>?_;exact⟨_,ad2,c2,E.ab [0,4,5],I.sub⟩
  clear E;(try clear I);rintro a w ⟨b4,ad2,c2,E,I⟩;refine RN 3 E I λa E=>?_;replace E:=E.ed 38;refine IF 7 E I (λao a E=>?_) λao a E=>?_
  ·
   replace ao:((k.done+1:Nat):Int)<((x.al.length:Nat):Int):=ao;refine aV 0 (λw0 w'=>Rd w' wb 0 (cx p aq cO tq jq sq { k with busy:=false })∧Rd w' wb 6 [.int .i64 k.jb,.int .i64 k.je]) [7] [0,1,2,4,5,6,3003,1007,1008] E I λa w E I hH=>?_;have wU:Rd w wb 6 [.int .i64 k.jb,.int .i64 k.je]:=(I.ai (b:=wb)).part 6 2;have hC:=hH.at w ⟨I.ai,wU⟩;refine RH 6 E I hH hC λa E=>?_;refine QH E (λw hc=>ae E (hc.1 3 _ rfl)) hC λa E=>?_;refine RH 0 E I hH hC λa E=>?_;refine SS E (bT E underlying245 rfl Ty.t245 (hC.2)) λa E=>?_;refine RH 0 E I hH hC λa E=>?_;refine CL 0 E I (AQ (I.uU jq) kP) λa w E I=>?_;change U W w (bI jq (mh J k.jb k.je)::_) at I;refine RT 0 E I ?_;refine⟨_,_,if k.done+1<x.al.length then mh J k.jb k.je else J,{ k with busy:=false },rfl,.iO (x:=x) (kk:=kk) hb he hx b6 eo hlt (by omega),?_⟩;rw[ak (by omega)];exact I.sub
  replace ao:((x.al.length:Nat):Int)≤((k.done+1:Nat):Int):=ao;refine RT 0 E I ?_;refine⟨_,_,if k.done+1<x.al.length then mh J k.jb k.je else J,{ k with busy:=false },rfl,.iO (x:=x) (kk:=kk) hb he hx b6 eo hlt (by omega),?_⟩;rw[ag (by omega)];exact I.sub
 have hlt:k.done+1≤x.done:=by
  have:=of_decide_eq_false aj;omega
 replace I:=(KN.resolve_left (λh=>by omega)).2;refine CL 2 E I (yJ (L:=aa b3 238 (ch x ad c)::Tree tq sq T::bI jq J::L) (I.sub (M:=aa wb 247 (cx p aq cO tq jq sq k)::ax sq r A::aa b3 238 (ch x ad c)::Tree tq sq T::bI jq J::L)) hb) λa w E I=>?_;refine RN 0 E I λa E=>?_;refine cc (M:=λa w=>∃ (b4:Nat) (ad2:Option Addr) (c2:Nat),Fr a 55 [(0,pt wb),(4,pt b4),(5,.bool true)]∧U W w (aa b4 238 (ch x ad2 c2)::aa wb 247 (cx p aq cO tq jq sq { k with busy:=false })::Tree tq sq T::ax sq r (A.eB k.x)::bI jq J::L)) ?_ ?_
 ·
  refine aV 0 (λw0 w'=>Rd w' wb 0 (cx p aq cO tq jq sq { k with busy:=false })∧Rd w' b3 0 (ch x ad c)) [5,10] [0,1,2,4,3003,3005,2006,7,8,9,1010,1011,12] E I λa w E I hH=>?_;have hC:=hH.at w ⟨I.ai,I.ai⟩;refine RH 4 E I hH hC λa E=>?_;refine QH E (λw hc=>ae E (hc.1 2 _ rfl)) hC λa E=>?_;refine QH E (λw hc=>ae E (hc.2 0 _ rfl)) hC λa E=>?_;refine RH 0 E I hH hC λa E=>?_;refine DN [(6,[7,8,9,1010,1011,12]),(10,[1006,7,8,9,1011,12])] (by kernel_rfl) rfl ⟨⟨_,rfl,?_⟩,⟨_,rfl,?_⟩,trivial⟩
  ·
   refine RH 0 E I hH hC λa E=>?_;refine aZ 0 E I (yl (x:=x) (k:=kk) (I.tree tq) hx) λad2 c2 a w E I=>?_;refine RN 3 E I λa E=>?_;refine eZ E rfl I Ty.t238 rfl λb4 a w E I ho=>?_;clear ho;replace hC:=hH.at w (And.intro I.ai I.ai);refine RH 0 E I hH hC λa E=>?_;refine SA 0 E I λa w E I=>?_;refine RN 1 E I λa E=>?_;exact⟨_,ad2,c2,E.ab [0,4,5],I.sub⟩
  refine RH 0 E I hH hC λa E=>?_;refine eZ E rfl I Ty.t238 rfl λb4 a w E I ho=>?_;clear ho;replace hC:=hH.at w (And.intro I.ai I.ai);refine RH 0 E I hH hC λa E=>?_;refine aZ 0 E I (yl (x:=x) (k:=kk) (I.tree tq) hx) λad2 c2 a w E I=>?_;refine SA 3 E I λa w E I=>?_;refine RN 1 E I λa E=>?_;exact⟨_,ad2,c2,E.ab [0,4,5],I.sub⟩
 clear E;(try clear I);rintro a w ⟨b4,ad2,c2,E,I⟩;refine RN 3 E I λa E=>?_;replace E:=E.ed 38;refine IF 7 E I (λao a E=>?_) λao a E=>?_
 ·
  refine aV 0 (λw0 w'=>Rd w' wb 0 (cx p aq cO tq jq sq { k with busy:=false })∧Rd w' wb 6 [.int .i64 k.jb,.int .i64 k.je]) [7] [0,1,2,4,5,6,3003,1007,1008] E I λa w E I hH=>?_;have wU:Rd w wb 6 [.int .i64 k.jb,.int .i64 k.je]:=(I.ai (b:=wb)).part 6 2;have hC:=hH.at w ⟨I.ai,wU⟩;refine RH 6 E I hH hC λa E=>?_;refine QH E (λw hc=>ae E (hc.1 3 _ rfl)) hC λa E=>?_;refine RH 0 E I hH hC λa E=>?_;refine SS E (bT E underlying245 rfl Ty.t245 (hC.2)) λa E=>?_;refine RH 0 E I hH hC λa E=>?_;refine CL 0 E I (AQ (I.uU jq) kP) λa w E I=>?_;change U W w (bI jq (mh J k.jb k.je)::_) at I;refine RT 0 E I ?_;refine⟨_,_,if x.done<x.al.length then mh J k.jb k.je else J,{ k with busy:=false },rfl,.lost (x:=x) hb he eI b6 eo hlt,?_⟩;rw[ak (by omega)];exact I.sub
 refine RT 0 E I ?_;refine⟨_,_,if x.done<x.al.length then mh J k.jb k.je else J,{ k with busy:=false },rfl,.lost (x:=x) hb he eI b6 eo hlt,?_⟩;rw[ag (by omega)];exact I.sub
structure KO (p:Pr)(A:Sn)(T:Tr)(J:Js)(k:Wk):Prop where
 pr:dm p
 sz:p.title.size≤1000000000
 frm:∀ y∈T.l,0≤y.frm∧y.frm≤1099511627776
 gw:∀ x∈T.l,∃ (i:Nat) (px:aC),A.ar[i]?=some px∧px.id=x.snap
 XD:k.busy=true→(∃ (i:Nat) (px:aC),A.ar[i]?=some px∧px.id=k.x∧px.refs=1∧dS px.g)∧∀ y∈T.l,(y.id:Int)=k.jb→k.done<y.al.length
 n:A.n+1<1099511627776
 len:J.length≤16
theorem Inv.ready {F:Int}{g0:Nat→Int}{t:Nat→Nat}{base:Nat}{ws:List Wk}(h:Inv p F g0 t base A T ws)(hk:k∈ws)(hF:0≤F∧F≤1099511627776)(hp:dm p)(hz:p.title.size≤1000000000)(hn:A.n+1<1099511627776)(kP:J.length≤16):KO p A T J k :=
 ⟨hp,hz,λy hy=>by rw[(h.gk y hy).1];exact hF,λx hx=>h.Ko hx,λhb=>⟨by
  obtain⟨i,px,h1,h2⟩:=h.Wv hk hb;have h3:=h.ar px (bF h1);exact⟨i,px,h1,h2,h3.1,h3.2⟩,λy hy he=>((h.lO k hk).2 hb y hy he).1⟩,hn,kP⟩
theorem XE (I:U W w (aa wb 247 (cx p aq cO tq jq sq k)::Tree tq sq T::ax sq r A::bI jq J::aA W p aq cO::L))(hr:KO p A T J k) :
   Calls prog 102 #[pt wb] w λe w'=>∃ (z:Bool) (A':Sn) (T':Tr) (J':Js) (k':Wk),e=.returned (.bool z)∧lN p A T J k z A' T' J' k' ∧
    U W w' (aa wb 247 (cx p aq cO tq jq sq k')::Tree tq sq T'::ax sq r A'::bI jq J'::aA W p aq cO::L):=by
 refine EN func102 ntmps102 rfl rfl λa E=>?_;refine RN 6 E I λa E=>?_;replace E:=E.aP 6;refine IF 8 E I (λao a E=>?_) λao a E=>?_
 ·
  refine j4 2 E I (Xx (p:=p) I ao hr.gw hr.n) ?_;clear E I;rintro e w ⟨z,A',J',k',rfl,uZ,I⟩;refine⟨_,rfl,λa E=>?_⟩;refine RT 1 E I ?_;exact⟨z,A',T,J',k',rfl,uZ,I⟩
 obtain⟨⟨i,px,hY,lh,a6,tv⟩,db⟩:=hr.XD ao;refine RN 0 E I λa E=>?_;refine cc (M:=λa w=>∃ (b3:Nat) (x:Br) (ad:Option Addr) (c:Nat) (ok:Bool),((ok=true∧x∈T.l∧(x.id:Int)=k.jb)∨(ok=false∧∀ y∈T.l,(y.id:Int)≠k.jb))∧Fr a 57 [(0,pt wb),(3,pt b3),(4,.bool ok)]∧U W w (aa b3 238 (ch x ad c)::cg ad x.al.length c x.al::aa wb 247 (cx p aq cO tq jq sq k)::Tree tq sq T::ax sq r A::bI jq J::aA W p aq cO::L)) ?_ ?_
 ·
  refine aV 0 (λw0 w'=>Rd w' wb 0 (cx p aq cO tq jq sq k)) [8,13] [0,1,2,4,5,6,7,3003,3008,2009,10,11,12,1013,1014,15] E I λa w E I hH=>?_;have hC:=hH.at w I.ai;refine RH 7 E I hH hC λa E=>?_;refine QH E (λw hc=>ae E (hc 2 _ rfl)) hC λa E=>?_;refine QH E (λw hc=>ae E (hc 6 _ rfl)) hC λa E=>?_;refine RH 0 E I hH hC λa E=>?_;refine DN [(9,[10,11,12,1013,1014,15]),(13,[1009,10,11,12,1014,15])] (by kernel_rfl) rfl ⟨⟨_,rfl,?_⟩,⟨_,rfl,?_⟩,trivial⟩
  ·
   refine RH 0 E I hH hC λa E=>?_;refine j4 0 E I (A5 (id:=k.jb) (I.tree tq)) ?_;clear E I;rintro e w ⟨x,ad,c,ok,rfl,dr,I⟩;refine⟨_,rfl,λa E=>?_⟩;refine RN 3 E I λa E=>?_;refine eZ E rfl I Ty.t238 rfl λb3 a w E I ho=>?_;clear ho;replace hC:=hH.at w I.ai;refine RH 0 E I hH hC λa E=>?_;refine SA 0 E I λa w E I=>?_;refine RN 1 E I λa E=>?_;exact⟨_,x,ad,c,ok,dr,E.ab [0,3,4],I.sub⟩
  refine RH 0 E I hH hC λa E=>?_;refine eZ E rfl I Ty.t238 rfl λb3 a w E I ho=>?_;clear ho;replace hC:=hH.at w I.ai;refine RH 0 E I hH hC λa E=>?_;refine j4 0 E I (A5 (id:=k.jb) (I.tree tq)) ?_;clear E I;rintro e w ⟨x,ad,c,ok,rfl,dr,I⟩;refine⟨_,rfl,λa E=>?_⟩;refine SA 3 E I λa w E I=>?_;refine RN 1 E I λa E=>?_;exact⟨_,x,ad,c,ok,dr,E.ab [0,3,4],I.sub⟩
 clear E;(try clear I);rintro a w ⟨b3,x,ad,c,ok,dr,E,I⟩;refine aV 2 (λw0 w'=>Rd w' wb 0 (cx p aq cO tq jq sq k)) [8,9] [0,1,2,3,5,6,7,3004,1008,1009,10,11,12,13,14,15] E I λa w E I hH=>?_;have hC:=hH.at w I.ai;refine RH 7 E I hH hC λa E=>?_;refine QH E (λw hc=>ae E (hc 7 _ rfl)) hC λa E=>?_;refine RH 0 E I hH hC λa E=>?_;refine SS E (ae E (hC 2 _ rfl)) λa E=>?_;refine RH 0 E I hH hC λa E=>?_;refine CL 0 E I (AK (I.tree tq)) λa w E I=>?_;replace hC:=hH.at w I.ai;refine RH 2 E I hH hC λa E=>?_;refine E.by (s:=42) (λla E=>?_) (λla E=>?_)
 ·
  refine RH 4 E I hH hC λa E=>?_;refine CL 2 E I (yJ (L:=Tree tq sq T::bI jq J::aA W p aq cO::L) (I.sub (M:=aa wb 247 (cx p aq cO tq jq sq k)::ax sq r A::Tree tq sq T::bI jq J::aA W p aq cO::L)) ao) λa w E I=>?_;refine RT 2 E I ?_;exact⟨true,A.eB k.x,T,J,{ k with busy:=false },rfl,.gone ao (.inl la),I.sub⟩
 refine RH 4 E I hH hC λa E=>?_;refine IF 0 E I (λay a E=>?_) λay a E=>?_
 ·
  have bQ:∀ y∈T.l,(y.id:Int)≠k.jb:=by
   rcases dr with ⟨h,_⟩ | ⟨_,h⟩
   ·rw[h]at ay;cases ay
   ·exact h
  refine CL 1 E I (yJ (L:=Tree tq sq T::bI jq J::aA W p aq cO::L) (I.sub (M:=aa wb 247 (cx p aq cO tq jq sq k)::ax sq r A::Tree tq sq T::bI jq J::aA W p aq cO::L)) ao) λa w E I=>?_;refine RT 2 E I ?_;exact⟨true,A.eB k.x,T,J,{ k with busy:=false },rfl,.gone ao (.inr bQ),I.sub⟩
 obtain⟨hx,b6⟩:x∈T.l∧(x.id:Int)=k.jb:=by
  rcases dr with ⟨_,h⟩ | ⟨h,_⟩
  ·exact h
  ·rw[h]at ay;cases ay
 refine IF 7 E I (λbk a E=>?_) λbk a E=>?_
 ·
  refine j3 2 E I (Xz (I.sub (M:=aa wb 247 (cx p aq cO tq jq sq k)::cg ad x.al.length c x.al::Tree tq sq T::ax sq r A::bI jq J::aA W p aq cO::L)) ao la hx b6 bk hY lh a6 tv (db x hx b6) (hr.frm x hx) hr.pr hr.sz hr.len) λA' J' k' a w E ⟨uZ,I⟩=>?_;refine RT 2 E I ?_;exact⟨true,A',T,J',k',rfl,uZ,I⟩
 obtain⟨kk,j6⟩:=j7.1 hx;refine j4 2 E I (XC (p:=p) (L:=aA W p aq cO::L) (I.sub (M:=aa wb 247 (cx p aq cO tq jq sq k)::Tree tq sq T::ax sq r A::bI jq J::aA W p aq cO::L)) ao la j6 b6 bk hY lh (db x hx b6) hr.len) ?_;clear E I;rintro e w ⟨A',T',J',k',rfl,uZ,I⟩;refine⟨_,rfl,λa E=>?_⟩;refine RT 2 E I ?_;exact⟨true,A',T',J',k',rfl,uZ,I⟩
end
end
section
theorem ER {s:ByteArray}{j:Nat}(h:j<s.size):s.get! j=s[j]'h:=by
 have h2:j<s.data.size:=h;show s.data[j]! = s.data[j];rw[getElem!_pos s.data j h2]
theorem KP {s:ByteArray}{j:Nat}(h:s.size≤j):s.get! j=0:=by
 have h2:¬ j<s.data.size:=Nat.not_lt.2 h;show s.data[j]! = 0;rw[getElem!_neg s.data j h2];rfl
theorem rX (s:ByteArray)(p:Nat):(s.extract p s.size).size=s.size-p:=by simp[ByteArray.size_extract]
theorem XF (s:ByteArray)(p k:Nat):(s.extract p s.size).get! k=s.get! (p+k):=by
 by_cases h:p+k<s.size
 ·have h2:k<(s.extract p s.size).size:=by rw[rX];omega
  rw[ER h2,ER h,ByteArray.getElem_extract]
 ·rw[KP (by rw[rX];omega),KP (by omega)]
theorem XG (s:ByteArray)(p:Nat):Utf8.decode (s.extract p s.size) 0=Utf8.decode s p:=by
 have hc:∀ k,decide (k<s.size-p)=decide (p+k<s.size):=λk=>by
  by_cases h:p+k<s.size
  ·rw[dk h,dk (by omega)]
  ·rw[bo h,bo (by omega)]
 simp only[Utf8.decode,XF,rX,hc,eG,Nat.add_assoc]
theorem ES (s:ByteArray)(p n:Nat):(s.extract p s.size).extract n (s.extract p s.size).size=s.extract (p+n) s.size:=by
 rw[rX,ByteArray.extract_extract]
 congr 1
 omega
def ET (b n low r:Nat):Prop:=(b=192+r∧r<32∧n=2∧low=128)∨(b=224+r∧r<16∧n=3∧low=2048)∨(b=240+r∧r<8∧n=4∧low=65536)
def ki (s:ByteArray)(j:Nat):Nat:=(s.get! j).toNat
def gl (s:ByteArray)(r:Nat):Nat→Nat
 | 0=>r
 | j+1=>gl s r j*64+ki s (j+1)%64
theorem EU (s:ByteArray)(j:Nat):ki s j<256:=(s.get! j).toNat_lt
theorem EV {s:ByteArray}{r:Nat}(h:r<32):∀ j,gl s r j<32*64 ^ j
 | 0=>by simpa [gl] using h
 | j+1=>by
  have:=EV (s:=s) h j;rw[gl,Nat.pow_succ];omega
def A7 (low r:Nat):Prop:=r<low∨1114111<r∨(55296≤r∧r<57344)
section
variable {s:ByteArray}{b n low r:Nat}
theorem XH (hb:ki s 0=b)(h:b<128):Utf8.decode s 0=(b,1):=by
 simp only[ki]at hb;simp[Utf8.decode,hb,h]
theorem tw (hb:ki s 0=b)(h1:128≤b)(h2:b<192∨248≤b):Utf8.decode s 0=(0xFFFD,1):=by
 have:=EU s 0;simp only[ki]at hb this;have e1:¬ b<128:=by omega
 have e2:(b/32==6)=false:=by rw[mc];omega
 have e3:(b/16==14)=false:=by rw[mc];omega
 have ju:(b/8==30)=false:=by rw[mc];omega
 simp[Utf8.decode,hb,e1,e2,e3,ju,Utf8.runeError]
theorem EW (hb:ki s 0=b)(hd:ET b n low r)(h:s.size<n∨∃ k,1≤k∧k<n∧ki s k/64≠2):Utf8.decode s 0=(0xFFFD,1):=by
 have hc:∃ k,1≤k∧k<n∧(decide (k<s.size)&&ki s k/64==2)=false:=by
  rcases h with h | ⟨k,h1,h2,h3⟩
  ·rcases lI s.size with h0 | h0
   ·exact⟨1,by omega,by rcases hd with h | h | h <;> omega,by rw[bo (by omega),Bool.false_and]⟩
   ·exact⟨s.size,by omega,h,by rw[bo (by omega),Bool.false_and]⟩
  ·exact⟨k,h1,h2,by rw[mc.2 h3,Bool.and_false]⟩
 obtain⟨k,h1,h2,h3⟩:=hc;simp only[ki]at hb h3;rcases hd with ⟨rfl,h4,rfl,rfl⟩ | ⟨rfl,h4,rfl,rfl⟩ | ⟨rfl,h4,rfl,rfl⟩
 ·have e1:¬ 192+r<128:=by omega
  have e2:((192+r)/32==6)=true:=by rw[beq_iff_eq];omega
  have e3:((192+r)/16==14)=false:=by rw[mc];omega
  have ju:((192+r)/8==30)=false:=by rw[mc];omega
  obtain rfl:k=1:=by omega
  simp only[Utf8.decode,eG,hb,e1,e2,e3,ju,h3,Utf8.runeError];simp
 ·have e1:¬ 224+r<128:=by omega
  have e2:((224+r)/32==6)=false:=by rw[mc];omega
  have e3:((224+r)/16==14)=true:=by rw[beq_iff_eq];omega
  have ju:((224+r)/8==30)=false:=by rw[mc];omega
  have hk:k=1∨k=2:=by omega
  rcases hk with rfl | rfl
  all_goals
   simp only[Utf8.decode,eG,hb,e1,e2,e3,ju,h3,Utf8.runeError];simp
 ·have e1:¬ 240+r<128:=by omega
  have e2:((240+r)/32==6)=false:=by rw[mc];omega
  have e3:((240+r)/16==14)=false:=by rw[mc];omega
  have ju:((240+r)/8==30)=true:=by rw[beq_iff_eq];omega
  have hk:k=1∨k=2∨k=3:=by omega
  rcases hk with rfl | rfl | rfl
  all_goals
   simp only[Utf8.decode,eG,hb,e1,e2,e3,ju,h3,Utf8.runeError];simp
theorem XI (hb:ki s 0=b)(hd:ET b n low r)(I:n≤s.size)(h:∀ k,1≤k→k<n→ki s k/64=2) :
   (A7 low (gl s r (n-1))→Utf8.decode s 0=(0xFFFD,1))∧(¬ A7 low (gl s r (n-1))→Utf8.decode s 0=(gl s r (n-1),n)):=by
 simp only[A7];have hc:∀ k,1≤k→k<n→(decide (k<s.size)&&(s.get! k).toNat/64==2)=true:=λk h1 h2=>by
  rw[dk (by omega),Bool.true_and,beq_iff_eq];exact h k h1 h2
 have hlt:=EV (s:=s) (r:=r) (by rcases hd with h | h | h <;> omega) (n-1);simp only[ki]at hb;rcases hd with ⟨rfl,h4,rfl,rfl⟩ | ⟨rfl,h4,rfl,rfl⟩ | ⟨rfl,h4,rfl,rfl⟩
 ·have e1:¬ 192+r<128:=by omega
  have e2:((192+r)/32==6)=true:=by rw[beq_iff_eq];omega
  have tx:gl s r (2-1)=(192+r)%32*64+(s.get! 1).toNat%64:=by
   show r*64+(s.get! 1).toNat%64=_;omega
  have kM:Utf8.decode s 0=if 128≤gl s r (2-1) then (gl s r (2-1),2) else (0xFFFD,1):=by
   rw[tx];simp only[Utf8.decode,eG,hb,e1,e2,hc 1 (by omega) (by omega),Utf8.runeError];simp
  have afM:gl s r (2-1)<2048:=hlt;refine⟨λkb=>?_,λhg=>?_⟩
  ·rw[kM,ag (by omega)]
  ·rw[kM,ak (by omega)]
 ·have e1:¬ 224+r<128:=by omega
  have e2:((224+r)/32==6)=false:=by rw[mc];omega
  have e3:((224+r)/16==14)=true:=by rw[beq_iff_eq];omega
  have tx:gl s r (3-1)=(224+r)%16*4096+(s.get! 1).toNat%64*64+(s.get! 2).toNat%64:=by
   show (r*64+(s.get! 1).toNat%64)*64+(s.get! 2).toNat%64=_;omega
  have kM:Utf8.decode s 0=if 2048≤gl s r (3-1)∧Utf8.valid (gl s r (3-1))=true then (gl s r (3-1),3) else (0xFFFD,1):=by
   rw[tx];simp only[Utf8.decode,eG,hb,e1,e2,e3,hc 1 (by omega) (by omega),hc 2 (by omega) (by omega),Utf8.runeError];simp
  have hv:Utf8.valid (gl s r (3-1))=true↔(gl s r (3-1)<55296∨(57344≤gl s r (3-1)∧gl s r (3-1)≤1114111)):=by
   simp only[Utf8.valid,Bool.or_eq_true,fq,oB];omega
  refine⟨λkb=>?_,λhg=>?_⟩
  ·rw[kM,ag (by rw[hv];omega)]
  ·rw[kM,ak (by rw[hv];omega)]
 ·have e1:¬ 240+r<128:=by omega
  have e2:((240+r)/32==6)=false:=by rw[mc];omega
  have e3:((240+r)/16==14)=false:=by rw[mc];omega
  have ju:((240+r)/8==30)=true:=by rw[beq_iff_eq];omega
  have tx:gl s r (4-1)=(240+r)%8*262144+(s.get! 1).toNat%64*4096+(s.get! 2).toNat%64*64+(s.get! 3).toNat%64:=by
   show ((r*64+(s.get! 1).toNat%64)*64+(s.get! 2).toNat%64)*64+(s.get! 3).toNat%64=_;omega
  have kM:Utf8.decode s 0=if 65536≤gl s r (4-1)∧Utf8.valid (gl s r (4-1))=true then (gl s r (4-1),4) else (0xFFFD,1):=by
   rw[tx];simp only[Utf8.decode,eG,hb,e1,e2,e3,ju,hc 1 (by omega) (by omega),hc 2 (by omega) (by omega),hc 3 (by omega) (by omega),Utf8.runeError];simp
  have hv:Utf8.valid (gl s r (4-1))=true↔(gl s r (4-1)<55296∨(57344≤gl s r (4-1)∧gl s r (4-1)≤1114111)):=by
   simp only[Utf8.valid,Bool.or_eq_true,fq,oB];omega
  refine⟨λkb=>?_,λhg=>?_⟩
  ·rw[kM,ag (by rw[hv];omega)]
  ·rw[kM,ak (by rw[hv];omega)]
end
def A8 (x:Nat×Nat):Bool:=if x.1≠65533 then true else decide (x.2=3)
theorem XJ (s:ByteArray)(i:Nat):A8 (Utf8.decode s i)=mQ (Utf8.decode s i):=by
 rcases Ka s i with h | h
 ·unfold A8 mQ;by_cases h1:(Utf8.decode s i).1=65533
  ·rw[h1]at h;have h2:(Utf8.decode s i).2=3:=by rw[← h];rfl
   rw[ag (λh3=>h3 h1),h2];have:Utf8.decode s i≠(65533,1):=λe=>by rw[e]at h2;cases h2
   simp[this]
  ·rw[ak h1];have:Utf8.decode s i≠(65533,1):=λe=>h1 (by rw[e]);simp[this]
 ·rw[h];rfl
def wV (c:Int):Nat:=[0,2,2,3,3,3,3,3,3,1,2,2,2,2,2,1].getD c.toNat 0
def A9 (o:gJ)(k:Nat):Int:=if k=0 then o.a else if k=1 then o.b else o.c
def kj (n:Int)(o:gJ)(k:Nat):Int:=if wV o.code≤k then 0 else if o.code=9∨(o.code=10∧k=1) then n else 31
def rZ (n:Int)(o:gJ)(k:Nat):Prop:=(k<wV o.code∧o.code=1∧k=1)∨(0≤A9 o k∧A9 o k≤kj n o k)
theorem yL {n:Int}{o:gJ}:e6 n o↔(0≤o.code∧o.code≤15)∧rZ n o 0∧rZ n o 1∧rZ n o 2:=by
 obtain⟨code,a,b,c⟩:=o;simp only[e6,rZ,A9,kj,e5];by_cases h:0≤code∧code≤15
 ·have h2:∃ m:Nat,code=m∧m≤15:=⟨code.toNat,by omega,by omega⟩;obtain⟨m,rfl,hm⟩:=h2;have:m=0∨m=1∨m=2∨m=3∨m=4∨m=5∨m=6∨m=7∨m=8∨m=9∨m=10∨m=11∨m=12∨m=13∨m=14∨m=15:=by omega
  rcases this with rfl | rfl | rfl | rfl | rfl | rfl | rfl | rfl | rfl | rfl | rfl | rfl | rfl | rfl | rfl | rfl <;> simp[wV] <;> omega
 ·constructor
  ·intro h3;omega
  ·intro h3;exact absurd h3.1 h
end
end Go.Proofs.YteoldcfapaiobaaGreat
