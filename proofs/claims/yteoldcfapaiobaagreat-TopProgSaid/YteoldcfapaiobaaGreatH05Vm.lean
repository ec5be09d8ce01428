/- The walks of packages word and vm, over whatever memory keeps the cells. -/
import Derived.Test.YteoldcfapaiobaaGreatH04Job
import Derived.Test.YteoldcfapaiobaaGreatH01Row
import Derived.Test.YteoldcfapaiobaaGreatH03Snap2
namespace Go.Proofs.YteoldcfapaiobaaGreat
open Tryz
open List (mem_range eraseIdx_set_eq append_nil set_set range_succ countP_congr)
open Go.RowKit
set_option linter.unusedVariables false
set_option linter.unusedSimpArgs false
set_option maxRecDepth 10000
set_option synthInstance.maxSize 4000
set_option synthInstance.maxHeartbeats 400000
section
section
variable {W w:World}{L:List SP}
theorem Kq {x:Int}(I:U W w L)(hx:du x):Calls prog 229 #[.int .i32 x,.int .i64 32] w λe V=>e=.returned (.int .i64 (kI x))∧U W V L:=by
 have h1:=Int.tmod_lt_of_pos x (b:=32) (by decide);have h2:=Int.lt_tmod_of_pos x (b:=32) (by decide);have hm:(kI x:Int)=x%32:=by
  have h1:=Int.emod_nonneg x (show (32:Int)≠0 by decide);show (((x%32).toNat:Nat):Int)=_;omega
 have ht:x.tmod 32=if 0≤x then x%32 else -((-x)%32):=by
  split
  ·exact Int.tmod_eq_emod_of_nonneg (by omega)
  ·rw[← Int.neg_neg (x.tmod 32),← Int.neg_tmod,Int.tmod_eq_emod_of_nonneg (by omega)]
 simp only[du]at hx;refine EN func229 ntmps229 rfl rfl λa E=>?_;refine RN 6 E I λa E=>?_;replace E:=E.aK 7;refine SX 3 E I (by rw[fU (by omega) (by omega)]) λa E=>?_;refine IF 7 E I (λao a E=>?_) λao a E=>?_
 ·
  refine RN 4 E I λa E=>?_;rw[show x.tmod 32+32=(kI x:Int) from by rw[hm,ht];split <;> omega]at E;refine RT 3 E I ?_;exact⟨rfl,I⟩
 refine RT 3 E I ?_;exact⟨by rw[hm,show x.tmod 32=x%32 from by rw[ht] at *;split at*<;> omega],I⟩
theorem WZ {x y:Int}(I:U W w L):Calls prog 244 #[.int .i32 x,.int .i32 y] w λe V=>e=.returned (.int .i32 (ig (x+y)))∧U W V L:=by
 refine EN func244 ntmps244 rfl rfl λa E=>?_;refine RT 7 E I ?_;exact⟨rfl,I⟩
theorem W0 {x y:Int}(I:U W w L):Calls prog 245 #[.int .i32 x,.int .i32 y] w λe V=>e=.returned (.int .i32 (ig (x-y)))∧U W V L:=by
 refine EN func245 ntmps245 rfl rfl λa E=>?_;refine RT 7 E I ?_;exact⟨rfl,I⟩
theorem W1 {x y:Int}(I:U W w L):Calls prog 246 #[.int .i32 x,.int .i32 y] w λe V=>e=.returned (.int .i32 (ig (x*y)))∧U W V L:=by
 refine EN func246 ntmps246 rfl rfl λa E=>?_;refine RT 7 E I ?_;exact⟨rfl,I⟩
theorem W3 {x y:Int}(I:U W w L):Calls prog 247 #[.int .i32 x,.int .i32 y] w λe V=>e=.returned (.int .i32 (if y=0 then 0 else ig (x.tdiv y)))∧U W V L:=by
 refine EN func247 ntmps247 rfl rfl λa E=>?_;refine IF 8 E I (λaj a E=>?_) λaj a E=>?_
 ·
  refine RT 2 E I ?_;exact⟨by rw[ak (by omega)],I⟩
 refine IF 3 E I (λao a E=>?_) λao a E=>?_
 ·
  refine RT 4 E I ?_;exact⟨by rw[ag (by omega),show y = -1 from by omega,Int.tdiv_neg,Int.tdiv_one,show (0:Int)-x = -x from by omega];rfl,I⟩
 refine RN 3 E I λa E=>?_;refine SS E (I5 E (by omega)) λa E=>?_;refine RT 1 E I ?_;exact⟨by rw[ag (by omega)];rfl,I⟩
theorem Kr {z:Bool}(I:U W w L):Calls prog 248 #[.bool z] w λe V=>e=.returned (.int .i32 (if z=true then 1 else 0))∧U W V L:=by
 refine EN func248 ntmps248 rfl rfl λa E=>?_;refine IF 5 E I (λaj a E=>?_) λaj a E=>?_
 ·
  refine RT 2 E I ?_;exact⟨by rw[ak aj],I⟩
 refine RT 2 E I ?_;exact⟨by rw[ag (by rw[aj];decide)],I⟩
theorem W4 {k x y:Int}(I:U W w L):Calls prog 242 #[.int .i64 k,.int .i32 x,.int .i32 y] w λe V=>e=.returned (.int .i32 (jf k x y))∧U W V L:=by
 refine EN func242 ntmps242 rfl rfl λa E=>?_;refine IF 8 E I (λaj a E=>?_) λaj a E=>?_
 ·
  refine CL 3 E I (WZ I) λa w E I=>?_;refine RT 1 E I ?_;exact⟨by simp[jf,aj],I⟩
 refine IF 3 E I (λao a E=>?_) λao a E=>?_
 ·
  refine CL 3 E I (W0 I) λa w E I=>?_;refine RT 1 E I ?_;exact⟨by simp[jf,ao],I⟩
 refine IF 3 E I (λay a E=>?_) λay a E=>?_
 ·
  refine CL 3 E I (W1 I) λa w E I=>?_;refine RT 1 E I ?_;exact⟨by simp[jf,ay],I⟩
 refine IF 3 E I (λbj a E=>?_) λbj a E=>?_
 ·
  refine CL 3 E I (W3 I) λa w E I=>?_;refine RT 1 E I ?_;exact⟨by simp[jf,bj],I⟩
 refine IF 3 E I (λbO a E=>?_) λbO a E=>?_
 ·
  refine CL 4 E I (Kr I) λa w E I=>?_;refine RT 1 E I ?_;exact⟨by simp[jf,bO],I⟩
 refine CL 4 E I (Kr I) λa w E I=>?_;refine RT 1 E I ?_;exact⟨by simp[jf,aj,ao,ay,bj,bO],I⟩
theorem W5 {s:ByteArray}{n:Int}(I:U W w L)(aE:s.size≤1099511627776)(hn:du n):Calls prog 241 #[.string s,.int .i64 n] w λe V=>e=.returned (.int .i32 (m8 s n))∧U W V L:=by
 simp only[du]at hn;refine EN func241 ntmps241 rfl rfl λa E=>?_;refine RN 5 E I λa E=>?_;refine DP E rfl I underlying9 rfl λb8 a w E I ho=>?_;clear ho;refine RN 0 E I λa E=>?_;refine aQ (λμ a w=>∃ (pos:Nat) (dn:List (Nat×Nat)),(μ=s.size-pos∧pos≤s.size∧ei s 0=dn++ei s pos∧dn.length≤pos∧(n<0∨(dn.length:Int)≤n))∧Fr a 17 [(0,.string s),(1,.int .i64 (n-dn.length)),(8,pt b8)]∧U W w (kV b8 (.stringIter s pos)::L)) (s.size) (⟨0,[],⟨by simp,by simp,by simp,by simp,by simp;omega⟩,by rw[show n-(([]:List (Nat×Nat)).length:Int)=n from by simp];exact E.ab [0,1,8],I⟩) ?_;clear E I;rintro μ a w ⟨pos,dn,⟨rfl,qv,c7,mL,rQ⟩,E,I⟩;refine RN 1 E I λa E=>?_;refine DR E rfl I rfl λa w E I=>?_;refine RN 0 E I λa E=>?_;refine SS E (om E (DM s pos)) λa E=>?_;refine IF 1 E I (λaj a E=>?_) λaj a E=>?_
 ·
  have nc:=rK aj;have jA:=Et qv;have pM:ee s pos=pos+(Utf8.decode s pos).2:=by rw[ee,ak aj]
  have lI:=uK s pos;refine RN 1 E I λa E=>?_;refine SS E (om E (DO aj)) λa E=>?_;refine IF 5 E I (λao a E=>?_) λao a E=>?_
  ·
   refine RT 3 E I ?_;refine⟨?_,I.sub⟩;have oM:n.toNat=dn.length:=by omega
   rw[m8,ak (by omega),c7,nc,oM,pn (bh _),Nat.sub_self];rfl
  refine RN 3 E I λa E=>?_;exact⟨s.size-ee s pos,by omega,ee s pos,dn++[Utf8.decode s pos],⟨rfl,jA,by rw[c7,nc,dA];rfl,by rw[aN];simp;omega,by rw[aN];simp;omega⟩,by rw[show n-((dn++[Utf8.decode s pos]).length:Int)=n-(dn.length:Int)-1 from by rw[aN];simp;omega];exact E.ab [0,1,8],I.sub⟩
 refine RT 2 E I ?_;refine⟨?_,I.sub⟩;have gI:=rL (s:=s) (pos:=pos) aj;rw[gI,append_nil]at c7;rw[m8];split
 ·rw[c7,iD (by omega)];rfl
 ·rfl
structure yK (W:World)(t:TypeId)(ad:Addr)(uT fs:FuncId)(J:(Nat→Int)→Bool→SP):Prop where
 oN : pz prog t "Get" uT
 oO:hE prog uT=true
 A9 : pz prog t "Set" fs
 wm:hE prog fs=true
 ok:∀ (w:World) (L:List SP) (g:Nat→Int) (bad:Bool),U W w (J g bad::L)→dT g
 get:∀ (w:World) (L:List SP) (g:Nat→Int) (bad:Bool) (c:Nat),c<32→U W w (J g bad::L)→Calls prog uT (List.toArray [.pointer (some ad),.int .i64 c]) w λe V=>e=.returned (.int .i32 (g c))∧U W V (J g bad::L)
 set:∀ (w:World) (L:List SP) (g:Nat→Int) (bad:Bool) (c:Nat) (v:Int),c<32→du v→U W w (J g bad::L)→Calls prog fs (List.toArray [.pointer (some ad),.int .i64 c,.int .i32 v]) w λe V =>
  ∃ (g':Nat→Int) (fz:Bool),e=.returned (.tuple #[])∧((fz=true∧g'=g)∨(fz=false∧bad=false∧g'=ck g c v))∧U W V (J g' fz::L)
abbrev hR (p:Pr)(an:Option Addr)(cO:Nat)(t:TypeId)(ad:Addr)(fr:Int)(adP:Option Addr)(W6 cP:Nat)(aU:Nat):List Value :=
 [.string p.title,.slice an p.ops.length cO,.iface t (.pointer (some ad)),.int .i64 fr,.slice adP W6 cP,.int .i64 aU]
variable {t:TypeId}{ad:Addr}{uT fs gv aU cO cP:Nat}{J:(Nat→Int)→Bool→SP}{p:Pr}{an adP:Option Addr}{fr:Int}{b:List UInt8}{g:Nat→Int}{bad:Bool}{o:fZ}
theorem W7 {x:Int}(I:U W w (aa gv 336 (hR p an cO t ad fr adP b.length cP aU)::L))(hx:du x)(hb:b.length≤1099511627776)(hp:∀ V,U W V L→aL V adP b.length b) :
   Calls prog 240 #[pt gv,.int .i32 x] w λe V=>e=.returned (.int .i32 (mJ b x))∧U W V (aa gv 336 (hR p an cO t ad fr adP b.length cP aU)::L):=by
 simp only[du]at hx;refine EN func240 ntmps240 rfl rfl λa E=>?_;refine BY 7 E I (λbA a E=>?_) λbA a E=>?_
 ·
  refine RT 12 E I ?_;exact⟨by rw[mJ,ag (by omega)],I⟩
 refine SX 1 E I (by rw[fU (by omega) (by omega)]) λa E=>?_;refine IF 7 E I (λaj a E=>?_) λaj a E=>?_
 ·
  refine RT 2 E I ?_;exact⟨by rw[mJ,ag (by omega)],I⟩
 refine RN 1 E I λa E=>?_;obtain⟨k,hk⟩:∃ k:Nat,x=(k:Int):=⟨x.toNat,by omega⟩;obtain⟨_,_,a7⟩:=hp _ I.tail;have yL:k<b.length:=by omega
 obtain⟨bp,op,gY,dh⟩:∃ bp op,adP=some ⟨bp,op,none⟩∧Rd w bp op (bc b):=by
  cases hh:adP with
  | none =>
   have:=(hp _ I.tail).2.1 hh;omega
  | some a =>
   obtain⟨b1,o1,rfl,h1⟩:=a7 a hh (by omega);exact⟨b1,o1,rfl,h1⟩
 rw[hk]at E;refine RN 4 E I λa E=>?_;rw[gY]at E;refine RN 2 E I λa E=>?_;refine SS E (ae E (dh k (.int .u8 b[k].toNat) (by simp[bc,yL]))) λa E=>?_;refine SX 0 E I (by have:=b[k].toNat_lt;exact ij (by omega) (by omega)) λa E=>?_;refine RT 1 E I ?_;refine⟨?_,I.sub⟩;rw[mJ,ak (by omega),hk,c3,bl,aD yL];rfl
theorem nW {c:Nat}{v:Int}(h:dT g)(hv:du v):dT (ck g c v):=λd hd=>by
 simp only[ck];split
 ·exact hv
 ·exact h d hd
def qK (x:Int)(m:Nat):Prop:=∃ n:Nat,x=(n:Int)∧n≤m
def l8 (x:Int)(m:Nat):Prop:=∃ n:Nat,x=(n:Int)∧n<m
theorem qK.of {x:Int}{m:Nat}(h:0≤x∧x≤m):qK x m:=⟨x.toNat,by omega,by omega⟩
theorem l8.of {x:Int}{m:Nat}(h:0≤x∧x<m):l8 x m:=⟨x.toNat,by omega,by omega⟩
theorem W8 {M:yK W t ad uT fs J}{m:Nat}(I:U W w (aa gv 336 (hR p an cO t ad fr adP b.length cP aU)::J g bad::L))(ho:e9 m o)(h0:o.code≠0)(h9:o.code≠9)(fP:o.code≠10)(Kk:o.code≠13)
   (aE:p.title.size≤1000000000) (hb:b.length≤1099511627776) (hp:∀ V,U W V L→aL V adP b.length b) :
   Calls prog 230 #[pt gv,.agg (c6 o).toArray] w λe V=>e=.returned (.int .i32 (jP p fr b g o))∧U W V (aa gv 336 (hR p an cO t ad fr adP b.length cP aU)::J g bad::L):=by
 have hg:dT g:=M.ok _ _ g bad I.tail;have qL:=ho;simp only[e9,e8]at qL;have oP:o.code≠1→o.code≠15→l8 o.b 32:=λh1 h2=>l8.of (by omega);have ng:3≤o.code∧o.code≤8→l8 o.c 32:=λh=>l8.of (by omega);have rR:o.code≠1→o.code≠2→o.code≠11→o.code≠12→o.code≠14→o.code≠15→3≤o.code∧o.code≤8:=by omega
 clear qL;refine EN func230 ntmps230 rfl rfl λa E=>?_;refine BX 1 E I λb3 a w E I=>?_;change U W w (aa b3 114 (c6 o)::_) at I;refine IF 8 E I (λaj a E=>?_) λaj a E=>?_
 ·
  refine RN 3 E I λa E=>?_;refine SS E (gr E underlying3 underlying21) λa E=>?_;refine RT 1 E I ?_;exact⟨by simp[jP,aj];rfl,I.sub⟩
 refine IF 3 E I (λao a E=>?_) λao a E=>?_
 ·
  refine RN 1 E I λa E=>?_;obtain⟨bC,ed,oQ⟩:=oP (by omega) (by omega);refine bW 0 [5] [0,1,2,4,3003,1005,1006,7] E I λa w E I hH hC=>?_;refine RH 6 E I hH hC λa E=>?_;rw[ed]at E;refine jN E rfl M.oN M.oO rfl (M.get _ _ g bad bC oQ (I.pick (J g bad))) (by rfl) ?_;clear E I;rintro e w ⟨rfl,I⟩;refine⟨_,rfl,λa E=>?_⟩;refine RN 1 E I λa E=>?_;refine RT 0 E I ?_;exact⟨by simp[jP,ao,ed],I.sub⟩
 refine IF 3 E I (λay a E=>?_) λay a E=>?_
 ·
  refine RN 1 E I λa E=>?_;obtain⟨bC,ed,oQ⟩:=oP (by omega) (by omega);refine bW 0 [6] [0,1,2,3,5,3004,1006,1007,1008,9] E I λa w E I hH hC=>?_;refine RH 7 E I hH hC λa E=>?_;rw[ed]at E;refine jN E rfl M.oN M.oO rfl (M.get _ _ g bad bC oQ (I.pick (J g bad))) (by rfl) ?_;clear E I;rintro e w ⟨rfl,I⟩;refine⟨_,rfl,λa E=>?_⟩;refine CL 0 E I (W7 (I.jV gv) (hg bC oQ) hb (λV h=>hp V h.sub)) λa w E I=>?_;refine RN 1 E I λa E=>?_;refine RT 0 E I ?_;exact⟨by simp[jP,ay,ed],I.sub⟩
 refine IF 3 E I (λbj a E=>?_) λbj a E=>?_
 ·
  refine a1 1 (λw0 V=>Rd V gv 0 (hR p an cO t ad fr adP b.length cP aU)∧Rd V b3 0 (c6 o)) [7,9,10,11] [0,1,2,4,5,6,8,3003,12,13,3007,1009,1010,1011,1014,15] E I λa w E I hH=>?_;obtain⟨bC,ed,oQ⟩:=oP (by omega) (by omega);have yM:=yz (g bC);have jh:Rd w gv 0 (hR p an cO t ad fr adP b.length cP aU):=I.ai;have gI:Rd w b3 0 (c6 o):=I.ai;have hC:=And.intro jh gI;refine RH 7 E I hH hC λa E=>?_;refine QH E (λw hc=>ae E (hc.1 2 _ rfl)) hC λa E=>?_;refine RH 2 E I hH hC λa E=>?_;refine QH E (λw hc=>ae E (hc.1 2 _ rfl)) hC λa E=>?_;refine RH 0 E I hH hC λa E=>?_;refine SS E (ae E (hC.2 2 _ rfl)) λa E=>?_;rw[ed]at E;refine RH 0 E I hH hC λa E=>?_;refine jN E rfl M.oN M.oO rfl (M.get _ _ g bad bC oQ (I.pick (J g bad))) (by rfl) ?_;clear E I;rintro e w ⟨rfl,I⟩;refine⟨_,rfl,λa E=>?_⟩;replace hC:=hH.at w (And.intro I.ai I.ai);refine RH 0 E I hH hC λa E=>?_;refine CL 0 E I (Kq I (hg bC oQ)) λa w E I=>?_;replace hC:=hH.at w (And.intro I.ai I.ai);refine RH 0 E I hH hC λa E=>?_;refine jN E rfl M.oN M.oO rfl (M.get _ _ g bad (kI (g bC)) yM (I.pick (J g bad))) (by rfl) ?_;clear E I;rintro e w ⟨rfl,I⟩;refine⟨_,rfl,λa E=>?_⟩;refine RN 1 E I λa E=>?_;refine RT 0 E I ?_;exact⟨by simp[jP,bj,ed],I.sub⟩
 refine IF 3 E I (λbO a E=>?_) λbO a E=>?_
 ·
  refine a1 1 (λw0 V=>Rd V gv 0 (hR p an cO t ad fr adP b.length cP aU)∧Rd V b3 0 (c6 o)) [8,10,11,12] [0,1,2,3,5,6,7,9,3004,3008,1010,1011,1012,1013,14] E I λa w E I hH=>?_;obtain⟨bC,ed,oQ⟩:=oP (by omega) (by omega);have Kt:=hg bC oQ;have W9:=Kt;simp only[du]at W9;have jh:Rd w gv 0 (hR p an cO t ad fr adP b.length cP aU):=I.ai;have gI:Rd w b3 0 (c6 o):=I.ai;have hC:=And.intro jh gI;refine RH 8 E I hH hC λa E=>?_;refine QH E (λw hc=>ae E (hc.1 0 _ rfl)) hC λa E=>?_;refine QH E (λw hc=>ae E (hc.1 2 _ rfl)) hC λa E=>?_;refine RH 0 E I hH hC λa E=>?_;refine SS E (ae E (hC.2 2 _ rfl)) λa E=>?_;rw[ed]at E;refine RH 0 E I hH hC λa E=>?_;refine jN E rfl M.oN M.oO rfl (M.get _ _ g bad bC oQ (I.pick (J g bad))) (by rfl) ?_;clear E I;rintro e w ⟨rfl,I⟩;refine⟨_,rfl,λa E=>?_⟩;replace hC:=hH.at w (And.intro I.ai I.ai);refine RH 0 E I hH hC λa E=>?_;refine SX 0 E I (by rw[fU (by omega) (by omega)]) λa E=>?_;refine RH 0 E I hH hC λa E=>?_;refine CL 0 E I (W5 I (by omega) Kt) λa w E I=>?_;refine RN 1 E I λa E=>?_;refine RT 0 E I ?_;exact⟨by simp[jP,bO,ed],I.sub⟩
 refine IF 3 E I (λeZ a E=>?_) λeZ a E=>?_
 ·
  refine RN 5 E I λa E=>?_;refine SS E (gr E underlying3 underlying100) λa E=>?_;refine RN 0 E I λa E=>?_;refine SS E (gr E underlying100 underlying21) λa E=>?_;refine RT 1 E I ?_;refine⟨?_,I.sub⟩;have e:IntKind.i32.wrap (IntKind.u32.wrap fr)=ig fr:=by
   simp only[ig,IntKind.wrap,IntKind.signed,IntKind.bits];have:fr%4294967296%4294967296=fr%4294967296:=Int.emod_emod_of_dvd _ (Int.dvd_refl _);simp[this]
  simp[jP,eZ,e]
 refine RN 1 E I λa E=>?_;obtain⟨bC,ed,oQ⟩:=oP (by omega) (by omega);obtain⟨uB,pO,Xa⟩:=ng (rR aj ao ay bj bO eZ);refine bW 0 [5] [0,1,2,4,3003,1005,1006,7] E I λa w E I hH hC=>?_;refine RH 6 E I hH hC λa E=>?_;rw[ed]at E;refine jN E rfl M.oN M.oO rfl (M.get _ _ g bad bC oQ (I.pick (J g bad))) (by rfl) ?_;clear E I;rintro e w ⟨rfl,I⟩;refine⟨_,rfl,λa E=>?_⟩;refine RN 1 E I λa E=>?_;refine a1 1 (λw0 V=>Rd V gv 0 (hR p an cO t ad fr adP b.length cP aU)∧Rd V b3 0 (c6 o)) [6,8,9] [0,2,3,4,5,7,3001,3006,1008,1009,1010,11] E I λa w E I hH=>?_;have jh:Rd w gv 0 (hR p an cO t ad fr adP b.length cP aU):=I.ai;have gI:Rd w b3 0 (c6 o):=I.ai;have hC:=And.intro jh gI;refine RH 6 E I hH hC λa E=>?_;refine QH E (λw hc=>ae E (hc.2 0 _ rfl)) hC λa E=>?_;refine QH E (λw hc=>ae E (hc.1 2 _ rfl)) hC λa E=>?_;refine RH 0 E I hH hC λa E=>?_;refine SS E (ae E (hC.2 3 _ rfl)) λa E=>?_;rw[pO]at E;refine RH 0 E I hH hC λa E=>?_;refine jN E rfl M.oN M.oO rfl (M.get _ _ g bad uB Xa (I.pick (J g bad))) (by rfl) ?_;clear E I;rintro e w ⟨rfl,I⟩;refine⟨_,rfl,λa E=>?_⟩;replace hC:=hH.at w (And.intro I.ai I.ai);refine RH 0 E I hH hC λa E=>?_;refine CL 0 E I (W4 I) λa w E I=>?_;refine RN 1 E I λa E=>?_;refine RT 0 E I ?_;exact⟨by simp[jP,aj,ao,ay,bj,bO,eZ,ed,pO],I.sub⟩
theorem Ku (s:ByteArray)(n:Int):du (m8 s n):=by
 have hb:∀ pos,∀ x∈ei s pos,x.1<1114112:=by
  have h:∀ k pos,s.size-pos≤k→∀ x∈ei s pos,x.1<1114112:=by
   intro k
   induction k with
   | zero=>intro pos h x hx;rw[rL (by omega)]at hx;simp at hx
   | succ k ih =>
    intro pos h x hx;by_cases hp:pos<s.size
    ·rw[rK hp]at hx;rcases List.mem_cons.1 hx with rfl | hx
     ·exact V0 s pos
     ·have:=(uK s pos).1;exact ih (ee s pos) (by rw[ee,ak hp];omega) x hx
    ·rw[rL hp]at hx;simp at hx
  exact λpos=>h _ pos (bh _)
 simp only[m8,du];split
 ·cases hx:(ei s 0)[n.toNat]? with
  | none=>simp
  | some x =>
   have:=hb 0 x (bH hx);simp only[Option.map_some,Option.getD_some];omega
 ·omega
theorem Kv (k x y:Int):du (jf k x y):=by
 unfold jf;have h1:du 1:=by simp[du]
 have h0:du 0:=by simp[du]
 repeat' split
 all_goals first | exact yA _ | exact h1 | exact h0
theorem Kw (b:List UInt8)(x:Int):du (mJ b x):=by
 simp only[mJ,du];split
 ·have:=(b.getD x.toNat 0).toNat_lt;omega
 ·omega
theorem Ky {m:Int}(hg:dT g)(ho:e9 m o)(h9:o.code≠9)(fP:o.code≠10):du (jP p fr b g o):=by
 simp only[e9,e8]at ho;have hb:o.code≠1→o.code≠15→o.code≠0→o.b.toNat<32:=λh1 h2 h3=>by omega
 have h0:o.code=0→o.b.toNat<32:=λh=>by omega
 unfold jP;split
 ·exact yA _
 ·split
  ·exact hg _ (hb (by omega) (by omega) (by omega))
  ·split
   ·exact Kw _ _
   ·split
    ·exact hg _ (yz _)
    ·split
     ·exact Ku _ _
     ·split
      ·exact yA _
      ·exact Kv _ _ _
set_option maxHeartbeats 4000000 in
theorem Xb {M:yK W t ad uT fs J}(I:U W w (aa gv 336 (hR p an cO t ad fr adP b.length cP aU)::J g bad::az W p an cO::L))(a7:∀ o∈p.ops,e9 p.ops.length o)(fb:p.ops[aU]?=some o)
   (aE:p.title.size≤1000000000) (dO:p.ops.length≤1000000000) (hb:b.length≤1099511627776) (hp:∀ V,U W V L→aL V adP b.length b) :
   Calls prog 203 #[pt gv] w λe V=>∃ (g':Nat→Int) (yN:Nat) (fz r:Bool),e=.returned (.bool r)∧(fz=false→bad=false∧eC p fr b g aU o=(g',yN,r))∧yN≤p.ops.length ∧
    U W V (aa gv 336 (hR p an cO t ad fr adP b.length cP yN)::J g' fz::az W p an cO::L):=by
 have hg:dT g:=M.ok _ _ g bad I.tail;have ho:=a7 o (bH fb);have afP:=(aZ.1 fb).1;have qL:=ho;simp only[e9,e8]at qL;have EV:o.code=9→qK o.a p.ops.length:=λh=>qK.of (by omega);have kb:o.code≠9→o.code≠0→l8 o.a 32:=λh h2=>l8.of (by omega);have EW:o.code=10→qK o.b p.ops.length:=λh=>qK.of (by omega);have Xc:o.code=13→l8 o.b 32:=λh=>l8.of (by omega);clear qL;refine EN func203 ntmps203 rfl rfl λa E=>?_;refine bW 3 [8,11] [0,1,2,3,5,6,7,3004,3008,9,3010,1011,1012] E I λa w E I hH hC=>?_;obtain⟨kZ,oo,gY,gI⟩:=I.rN an (by omega);rw[gY]at I;replace hH:=Hd.fK I;refine RH 10 E I hH hC λa E=>?_;refine QH E (λw hc=>bQ E underlying114 rfl Ty.t114 (hc.rd (wF gI fb))) hC λa E=>?_;refine RH 0 E I hH hC λa E=>?_;refine e5 E rfl I Ty.t114 rfl λb3 a w E I ho=>?_;replace hC:=hC.trans ho;clear ho;refine RH 0 E I hH hC λa E=>?_;refine SA 0 E I λa w E I=>?_;refine RN 0 E I λa E=>?_;rw[← gY]at I;replace E:=E.ab [0,3];refine ST 8 E I (λa w E I=>?_) (hlt:=(by simp[hR]));rw[show ((aU:Int)+1)=((aU+1:Nat):Int) from rfl]at I;change U W w (aa gv 336 (hR p an cO t ad fr adP b.length cP (aU+1))::_) at I;refine IF 7 E I (λaj a E=>?_) λaj a E=>?_
 ·
  refine RT 2 E I ?_;exact⟨g,aU+1,bad,false,rfl,λh=>⟨h,by rw[eC,ak aj]⟩,by omega,I.sub⟩
 refine IF 3 E I (λao a E=>?_) λao a E=>?_
 ·
  obtain⟨cB,dP,kc⟩:=EV ao;refine ST 5 E I (λa w E I=>?_) (hlt:=(by simp[hR]));rw[dP]at I;change U W w (aa gv 336 (hR p an cO t ad fr adP b.length cP cB)::_) at I;refine RT 2 E I ?_;exact⟨g,cB,bad,true,rfl,λh=>⟨h,by rw[eC,ag aj,ak ao,dP];rfl⟩,by omega,I.sub⟩
 refine IF 3 E I (λay a E=>?_) λay a E=>?_
 ·
  refine RN 1 E I λa E=>?_;obtain⟨cB,dP,kc⟩:=kb ao aj;obtain⟨bC,ed,iM⟩:=EW ay;refine bW 0 [5] [0,1,2,4,3003,1005,1006,7] E I λa w E I hH hC=>?_;refine RH 6 E I hH hC λa E=>?_;rw[dP]at E;refine jN E rfl M.oN M.oO rfl (M.get _ _ g bad cB kc (I.pick (J g bad))) (by rfl) ?_;clear E I;rintro e w ⟨rfl,I⟩;refine⟨_,rfl,λa E=>?_⟩;refine RN 1 E I λa E=>?_;refine IF 0 E I (λbj a E=>?_) λbj a E=>?_
  ·
   refine ST 5 E I (λa w E I=>?_) (hlt:=(by simp[hR]));rw[ed]at I;change U W w (aa gv 336 (hR p an cO t ad fr adP b.length cP bC)::_) at I;refine RT 2 E I ?_;exact⟨g,bC,bad,true,rfl,λh=>⟨h,by rw[eC,ag aj,ag ao,ak ay,dP,ed,c3,ak bj];rfl⟩,by omega,I.sub⟩
  refine RT 2 E I ?_;exact⟨g,aU+1,bad,true,rfl,λh=>⟨h,by rw[eC,ag aj,ag ao,ak ay,dP,c3,ag bj]⟩,by omega,I.sub⟩
 refine IF 3 E I (λbO a E=>?_) λbO a E=>?_
 ·
  refine RN 1 E I λa E=>?_;obtain⟨cB,dP,kc⟩:=kb ao aj;obtain⟨bC,ed,iM⟩:=Xc bO;refine bW 0 [5] [0,1,2,4,3003,1005,1006,1007,8] E I λa w E I hH hC=>?_;refine RH 6 E I hH hC λa E=>?_;rw[dP]at E;refine jN E rfl M.oN M.oO rfl (M.get _ _ g bad cB kc (I.pick (J g bad))) (by rfl) ?_;clear E I;rintro e w ⟨rfl,I⟩;refine⟨_,rfl,λa E=>?_⟩;refine CL 0 E I (Kq I (hg cB kc)) λa w E I=>?_;refine RN 1 E I λa E=>?_;refine a1 0 (λw0 V=>Rd V gv 0 (hR p an cO t ad fr adP b.length cP (aU+1))∧Rd V b3 0 (c6 o)) [8,10,11] [0,1,2,4,5,6,7,9,3003,12,13,3008,1010,1011,1014] E I λa w E I hH=>?_;have jh:Rd w gv 0 (hR p an cO t ad fr adP b.length cP (aU+1)):=I.ai;have g2:Rd w b3 0 (c6 o):=I.ai;have hC:=And.intro jh g2;refine RH 8 E I hH hC λa E=>?_;refine QH E (λw hc=>ae E (hc.1 2 _ rfl)) hC λa E=>?_;refine RH 2 E I hH hC λa E=>?_;refine QH E (λw hc=>ae E (hc.1 2 _ rfl)) hC λa E=>?_;refine RH 0 E I hH hC λa E=>?_;refine SS E (ae E (hC.2 2 _ rfl)) λa E=>?_;rw[ed]at E;refine RH 0 E I hH hC λa E=>?_;refine jN E rfl M.oN M.oO rfl (M.get _ _ g bad bC iM (I.pick (J g bad))) (by rfl) ?_;clear E I;rintro e w ⟨rfl,I⟩;refine⟨_,rfl,λa E=>?_⟩;replace hC:=hH.at w (And.intro I.ai I.ai);refine RH 0 E I hH hC λa E=>?_;refine jN E rfl M.A9 M.wm rfl (M.set _ _ g bad (kI (g cB)) (g bC) (yz _) (hg bC iM) (I.pick (J g bad))) (by rfl) ?_;clear E I;rintro e w ⟨g',fz,rfl,yE,I⟩;refine⟨_,rfl,λa E=>?_⟩;refine RT 2 E I ?_;refine⟨g',aU+1,fz,true,rfl,λh=>?_,by omega,I.sub⟩;obtain⟨_,h1,h2⟩:=yE.resolve_left (λh3=>by rw[h]at h3;cases h3.1);exact⟨h1,by rw[eC,ag aj,ag ao,ag ay,ak bO,dP,ed,c3,c3,h2]⟩
 refine a1 0 (λw0 V=>Rd V gv 0 (hR p an cO t ad fr adP b.length cP (aU+1))∧Rd V b3 0 (c6 o)) [5,7,8] [0,1,2,4,6,3003,9,10,3005,1007,1008,1011] E I λa w E I hH=>?_;obtain⟨cB,dP,kc⟩:=kb ao aj;have jh:Rd w gv 0 (hR p an cO t ad fr adP b.length cP (aU+1)):=I.ai;have g2:Rd w b3 0 (c6 o):=I.ai;have hC:=And.intro jh g2;refine RH 5 E I hH hC λa E=>?_;refine QH E (λw hc=>ae E (hc.1 2 _ rfl)) hC λa E=>?_;refine RH 2 E I hH hC λa E=>?_;refine QH E (λw hc=>ae E (hc.2 1 _ rfl)) hC λa E=>?_;rw[dP]at E;refine RH 0 E I hH hC λa E=>?_;refine SS E (bQ E underlying114 rfl Ty.t114 (hC.2)) λa E=>?_;refine RH 0 E I hH hC λa E=>?_;refine CL 0 E I (W8 (M:=M) (L:=aa b3 114 (c6 o)::az W p an cO::L) (I.sub (M:=aa gv 336 (hR p an cO t ad fr adP b.length cP (aU+1))::J g bad::aa b3 114 (c6 o)::az W p an cO::L)) ho aj ao ay bO aE hb (λV h=>hp V h.sub)) λa w E I=>?_;replace hC:=hH.at w (And.intro I.ai I.ai);refine RH 0 E I hH hC λa E=>?_;refine jN E rfl M.A9 M.wm rfl (M.set _ _ g bad cB (jP p fr b g o) kc (Ky hg ho ao ay) (I.pick (J g bad))) (by rfl) ?_;clear E I;rintro e w ⟨g',fz,rfl,yE,I⟩;refine⟨_,rfl,λa E=>?_⟩;refine RT 2 E I ?_;refine⟨g',aU+1,fz,true,rfl,λh=>?_,by omega,I.sub⟩;obtain⟨_,h1,h2⟩:=yE.resolve_left (λh3=>by rw[h]at h3;cases h3.1);exact⟨h1,by rw[eC,ag aj,ag ao,ag ay,ag bO,dP,c3,h2]⟩
theorem EX {n:Nat}(h:p.ops[aU]?=some o):qG p fr b (n+1) g aU=if (eC p fr b g aU o).2.2 then qG p fr b n (eC p fr b g aU o).1 (eC p fr b g aU o).2.1 else (eC p fr b g aU o).1:=by
 rw[qG];simp only[h]
theorem EY {n:Nat}(h:p.ops.length≤aU):qG p fr b n g aU=g:=by
 cases n with
 | zero=>rfl
 | succ n=>rw[qG];simp only[iD h]
set_option maxHeartbeats 4000000 in
theorem Kz {M:yK W t ad uT fs J}(I:U W w (J g bad::az W p an cO::L))(a7:dq p)(aE:p.title.size≤1000000000)(hb:b.length≤1099511627776)(hp:∀ V,U W V L→aL V adP b.length b) :
   Calls prog 174 #[.agg (bx p an cO).toArray,.iface t (.pointer (some ad)),.int .i64 fr,.slice adP b.length cP] w λe V=>∃ (g':Nat→Int) (fz:Bool) (n:Int),e=.returned (.int .i64 n)∧(fz=false→bad=false∧g'=fa p fr b g) ∧
    U W V (J g' fz::az W p an cO::L):=by
 have dO:p.ops.length≤64:=a7.1.2.2.1;refine EN func174 ntmps174 rfl rfl λa E=>?_;refine BX 1 E I λb4 a w E I=>?_;change U W w (aa b4 45 (bx p an cO)::_) at I;refine RN 6 E I λa E=>?_;replace E:=E.aK 13;refine aW 1 E I (EU (I.pick (az W p an cO)) aE (by omega)) λr a w E ⟨hr,I⟩=>?_;rw[hr.2 a7]at E;refine RN 1 E I λa E=>?_;rw[show (!true)=false from rfl]at E;refine RN 1 E I λa E=>?_;replace E:=E.aK 17;refine RN 3 E I λa E=>?_;change Fr a 42 ((18,.agg (List.toArray [.string p.title,.slice an p.ops.length cO]))::_) at E;refine BX 4 E I λyO a w E I=>?_;change U W w (aa yO 336 (hR p an cO t ad fr adP b.length cP 0)::_) at I;refine RN 4 E I λa E=>?_;refine aQ (λμ a w=>∃ (n aU:Nat) (g':Nat→Int) (fz:Bool),(μ=200-n∧n≤200∧aU≤p.ops.length∧(fz=false→bad=false∧qG p fr b (200-n) g' aU=fa p fr b g))∧Fr a 42 [(4,pt b4),(9,pt yO),(10,.int .i64 n)]∧U W w (aa yO 336 (hR p an cO t ad fr adP b.length cP aU)::aa b4 45 (bx p an cO)::J g' fz::az W p an cO::L)) (200) (⟨0,0,g,bad,⟨by simp,by simp,by simp,λh=>⟨h,rfl⟩⟩,E.ab [4,9,10],I.sub⟩) ?_;clear E I;rintro μ a w ⟨n,aU,g',fz,⟨rfl,hn,fb,oR⟩,E,I⟩;refine bW 2 [8,9] [0,1,2,3,4,5,7,3006,1008,1009,10,11] E I λa w E I hH hC=>?_;refine RH 3 E I hH hC λa E=>?_;refine E.by (s:=26) (λbA E=>?_) (λbA E=>?_)
 ·
  refine RH 9 E I hH hC λa E=>?_;refine IF 0 E I (λao a E=>?_) λao a E=>?_
  ·
   obtain⟨o,ho⟩:∃ o,p.ops[aU]?=some o:=⟨_,aD (by omega)⟩;have aT:=EX (p:=p) (fr:=fr) (b:=b) (g:=g') (n:=200-(n+1)) ho;rw[show 200-(n+1)+1=200-n from by omega]at aT;refine j2 6 E I (Xb (M:=M) (L:=aa b4 45 (bx p an cO)::L) (I.sub (M:=aa yO 336 (hR p an cO t ad fr adP b.length cP aU)::J g' fz::az W p an cO::aa b4 45 (bx p an cO)::L)) a7.2 ho aE (by omega) hb (λV h=>hp V h.tail)) ?_;clear E I;rintro e w ⟨jZ,yN,Ba,r2,rfl,fW,Xd,I⟩;refine⟨_,rfl,λa E=>?_⟩;refine IF 1 E I (λay a E=>?_) λay a E=>?_
   ·
    have wx:r2=false:=by simpa using ay
    have EZ:Ba=false→bad=false∧jZ=fa p fr b g:=λh=>by
     obtain⟨h1,h2⟩:=fW h;obtain⟨h3,h4⟩:=oR h1;refine⟨h3,?_⟩;rw[aT,h2,wx]at h4;exact h4
    refine RT 3 E I ?_;exact⟨jZ,Ba,_,rfl,EZ,I.sub⟩
   have uS:r2=true:=by simpa using ay
   refine RN 0 E I λa E=>?_;refine⟨200-(n+1),by omega,n+1,yN,jZ,Ba,⟨rfl,by omega,Xd,λh=>?_⟩,E.ab [4,9,10],I.sub⟩;obtain⟨h1,h2⟩:=fW h;obtain⟨h3,h4⟩:=oR h1;refine⟨h3,?_⟩;rw[aT,h2,uS]at h4;exact h4
  refine RT 3 E I ?_;refine⟨g',fz,_,rfl,λh=>?_,I.sub⟩;obtain⟨h3,h4⟩:=oR h;rw[EY (by omega)]at h4;exact⟨h3,h4⟩
 have pP:n=200:=by omega
 refine RH 9 E I hH hC λa E=>?_;refine RT 4 E I ?_;refine⟨g',fz,_,rfl,λh=>?_,I.sub⟩;obtain⟨h3,h4⟩:=oR h;rw[pP]at h4;exact⟨h3,h4⟩
end
end
section
def distinct:List Nat→Nat
 | []=>0
 | x::l=>distinct l+if x∈l then 0 else 1
def lf (l:List aC):List Nat:=l.flatMap λx=>[x.p 0,x.p 1,x.p 2,x.p 3]
theorem Xe {l:List aC}{p:Nat}:p∈lf l↔0<cQ l p:=by
 induction l with
 | nil=>simp[lf,cQ]
 | cons x l ih =>
  rw[s8];have h1:lf (x::l)=[x.p 0,x.p 1,x.p 2,x.p 3]++lf l:=rfl;rw[h1,eX,ih];constructor
  ·rintro (h | h)
   ·have h2 : 0 < hK x p := Jz.2 (by
     simp at h;rcases h with h | h | h | h
     ·exact⟨0,by omega,h.symm⟩
     ·exact⟨1,by omega,h.symm⟩
     ·exact⟨2,by omega,h.symm⟩
     ·exact⟨3,by omega,h.symm⟩)
    omega
   ·omega
  ·intro h;by_cases h2:0<hK x p
   ·left;obtain⟨k,hk,rfl⟩:=Jz.1 h2;rcases (by omega:k=0∨k=1∨k=2∨k=3) with rfl | rfl | rfl | rfl <;> simp
   ·right;omega
theorem Xf (n:Nat)(f:Nat→Bool)(x:Nat)(hx:x<n)(h0:f x=false):(List.range n).countP (λp=>p==x||f p)=(List.range n).countP f+1:=by
 induction n with
 | zero=>omega
 | succ n ih =>
  rw[range_succ,List.countP_append,List.countP_append,List.countP_singleton,List.countP_singleton];by_cases hn:x=n
  ·subst hn;have:(List.range x).countP (λp=>p==x||f p)=(List.range x).countP f:=countP_congr λp hp=>by
    have:p<x:=mem_range.1 hp;have h2:(p==x)=false:=by simp;omega
    simp[h2]
   rw[this,h0];simp
  ·have h2:(n==x)=false:=by simp;omega
   rw[ih (by omega),h2];simp;omega
theorem KA (n:Nat):∀ l:List Nat,(∀ p∈l,p<n)→(List.range n).countP (λp=>decide (p∈l))=distinct l
 | [],_=>by simp[distinct]
 | x::l,h=>by
  have ih:=KA n l λp hp=>h p (gU _ hp);rw[distinct,← ih];by_cases hx:x∈l
  ·rw[ak hx,Nat.add_zero];refine countP_congr λp _=>?_;simp only[List.mem_cons,qs];exact⟨λhp=>by rcases hp with rfl | hp;exact hx;exact hp,λhp=>.inr hp⟩
  ·rw[ag hx];have:=Xf n (λp=>decide (p∈l)) x (h x jo) (by simp[hx]);rw[← this];refine countP_congr λp _=>?_;simp
theorem Xg {A:Sn}(h:∀ x∈A.av,∀ k,k<4→x.p k<A.room):A.used=distinct (lf A.av):=by
 rw[← KA A.room (lf A.av) (λp hp=>?_)]
 ·rw[Sn.used];refine countP_congr λp _=>?_;simp[Xe]
 ·simp only[lf,List.mem_flatMap]at hp;obtain⟨x,hx,hp⟩:=hp;simp at hp;rcases hp with rfl | rfl | rfl | rfl <;> exact h x hx _ (by omega)
section
variable {W w:World}{L R:List SP}{q r:Nat}{A:Sn}
class wO (L:List SP)(q:Nat)(r:outParam Nat)(A:outParam Sn)(R:outParam (List SP)):Prop where perm:L.Perm (ax q r A::R)
instance wO.head {L q r A}:wO (ax q r A::L) q r A L:=⟨lA _⟩
instance (priority:=low) wO.tail {B L q r A R}[h:wO L q r A R]:wO (B::L) q r A (B::R):=⟨(kq B h.perm).trans (cW _ _ _)⟩
theorem U.store (I:U W w L)(q:Nat)[k:wO L q r A R]:U W w (ax q r A::R):=I.perm k.perm
theorem ax.facts (I:U W w (ax q r A::L)):WF A∧∀ x∈A.av,∀ k,k<4→x.p k<A.room:=by
 obtain⟨b,m,ps,xs,h1,hw,hr,I⟩:=ax.open I;exact⟨hw,λx hx k hk=>by rw[← hr.len];exact (hr.live hx hk).1⟩
theorem ax.used (I:U W w (ax q r A::L)):A.used=distinct (lf A.av):=Xg (ax.facts I).2
end
end
section
theorem Xh (l:List aC)(p:Nat):(lf l).count p=cQ l p:=by
 induction l with
 | nil=>rfl
 | cons x l ih =>
  have h1:lf (x::l)=[x.p 0,x.p 1,x.p 2,x.p 3]++lf l:=rfl;rw[h1,List.count_append,ih,s8,uD];simp only[List.count_cons,List.count_nil,beq_iff_eq];omega
theorem KB (p:Nat):∀ l:List Nat,distinct l+(l.count p-1)≤l.length
 | []=>by simp[distinct]
 | x::l=>by
  have ih:=KB p l;rw[distinct,List.count_cons,fm];by_cases hx:x=p
  ·subst hx;by_cases hm:x∈l
   ·have:=List.count_pos_iff.2 hm;simp[hm];omega
   ·have:=List.count_eq_zero.2 hm;simp[hm];omega
  ·have h1:(x==p)=false:=by simpa using hx
   simp only[h1,Bool.false_eq_true,if_false,Nat.add_zero];split <;> omega
theorem Xi (l:List aC):(lf l).length=4*l.length:=by
 induction l with
 | nil=>rfl
 | cons x l ih =>
  have h1:lf (x::l)=[x.p 0,x.p 1,x.p 2,x.p 3]++lf l:=rfl;rw[h1,aN,ih,fm];simp;omega
section
variable {W w:World}{L:List SP}{q r i bc:Nat}{A:Sn}{x px:aC}
theorem ax.shared (I:U W w (ax q r A::L)){p:Nat}(h:1<cQ A.av p):A.used<4*A.av.length:=by
 have h1:=KB p (lf A.av);rw[← ax.used I,Xh,Xi]at h1;omega
theorem Xj {c:Nat}{v:Int}(I:U W w (ax q r A::L))(hx:A.av[i]?=some x)(hc:c<32) :
   Calls prog 346 #[pt q,.int .i64 x.id,.int .i64 c,.int .i32 v] w λe V=>∃ (ok:Bool) (p':Nat→Nat),e=.returned (.bool ok)∧(ok=false→¬ 4*A.av.length≤A.room) ∧
    ((ok=true∧U W V (ax q r { A with av:=A.av.set i { x with g:=ck x.g c v,p:=p' } }::L))∨(ok=false∧U W V (ax q r A::L))):=by
 have oS:c/8<4:=by omega
 by_cases h1:1<cQ A.av (x.p (c/8))
 ·by_cases hu:A.used<A.room
  ·exact (Vo (v:=v) I hx hc h1 hu).mono λe V ⟨f,h2,_,I⟩=>⟨true,λj=>if j=c/8 then f else x.p j,h2,λh=>(by cases h),.inl ⟨rfl,I⟩⟩
  ·have hsh:=ax.shared I h1;exact (Vp (v:=v) I hx hc h1 (by omega)).mono λe V ⟨h2,I⟩=>⟨false,x.p,h2,λ_=>by omega,.inr ⟨rfl,I⟩⟩
 ·have h3 : cQ A.av (x.p (c / 8)) = 1 := by
   have h4:=uE (bH hx) (x.p (c/8));have h5:=s7 (x:=x) oS;omega
  exact (Vm (v:=v) I hx hc h3).mono λe V ⟨h2,I⟩=>⟨true,x.p,h2,λh=>(by cases h),.inl ⟨rfl,I⟩⟩
theorem Xk {g:Nat→Int}{c:Nat}{v:Int}(h:dT g)(hv:du v):dT (ck g c v):=λj hj=>by
 simp only[ck];split
 ·exact hv
 ·exact h j hj
def Jw (q r bc i:Nat)(A:Sn)(px:aC)(g:Nat→Int)(bad:Bool):SP:=λh=>∃ p':Nat→Nat,(dT g∧(bad=true→¬ 4*A.av.length≤A.room)) ∧
 cp [aa bc 307 [pt q,.int .i64 px.id,.bool bad],ax q r { A with av:=A.av.set i ⟨px.id,px.refs,g,p'⟩ }] h
theorem Jw.open {g:Nat→Int}{bad:Bool}(I:U W w (Jw q r bc i A px g bad::L)):∃ p':Nat→Nat,(dT g∧(bad=true→¬ 4*A.av.length≤A.room)) ∧
   U W w (aa bc 307 [pt q,.int .i64 px.id,.bool bad]::ax q r { A with av:=A.av.set i ⟨px.id,px.refs,g,p'⟩ }::L):=by
 obtain⟨p',h1,h2⟩:=I.jL (ι:=Nat→Nat) (p:=λ_=>dT g∧(bad=true→¬ 4*A.av.length≤A.room)) (B:=λp' h=>cp [aa bc 307 [pt q,.int .i64 px.id,.bool bad],ax q r { A with av:=A.av.set i ⟨px.id,px.refs,g,p'⟩ }] h) (λh ⟨p',h1,h2⟩=>⟨p',h1,h2⟩);exact⟨p',h1,h2.open λ_ h=>h⟩
theorem Jw.close {g:Nat→Int}{bad:Bool}{p':Nat→Nat}(I:U W w (aa bc 307 [pt q,.int .i64 px.id,.bool bad]::ax q r { A with av:=A.av.set i ⟨px.id,px.refs,g,p'⟩ }::L))(h1:dT g)(h2:bad=true→¬ 4*A.av.length≤A.room) :
   U W w (Jw q r bc i A px g bad::L):=U.shut (M:=[_,_]) I (λ_ x=>⟨p',⟨h1,h2⟩,x⟩)
theorem Xl {g:Nat→Int}{bad:Bool}{c:Nat}(hx:i<A.av.length)(hc:c<32)(I:U W w (Jw q r bc i A px g bad::L)) :
   Calls prog 353 (List.toArray [pt bc,.int .i64 c]) w λe V=>e=.returned (.int .i32 (g c))∧U W V (Jw q r bc i A px g bad::L):=by
 obtain⟨p',⟨h1,h2⟩,I⟩:=Jw.open I;refine EN func353 ntmps353 rfl rfl λa E=>?_;refine bW 3 [7] [0,1,2,4,5,6,8,3003,1007,1009,10,11,12,13,14] E I λa w E I hH hC=>?_;refine RH 9 E I hH hC λa E=>?_;refine CL 0 E I (JG (i:=i) (x:=⟨px.id,px.refs,g,p'⟩) (I.store q) (by simp[hx]) hc) λa w E I=>?_;refine RN 5 E I λa E=>?_;refine RT 3 E I ?_;exact⟨rfl,Jw.close (p':=p') I.sub h1 h2⟩
theorem Xm {g:Nat→Int}{bad:Bool}{c:Nat}{v:Int}(hx:i<A.av.length)(hc:c<32)(hv:du v)(I:U W w (Jw q r bc i A px g bad::L)) :
   Calls prog 354 (List.toArray [pt bc,.int .i64 c,.int .i32 v]) w λe V=>∃ (g':Nat→Int) (fz:Bool),e=.returned (.tuple #[])∧((fz=true∧g'=g)∨(fz=false∧bad=false∧g'=ck g c v))∧U W V (Jw q r bc i A px g' fz::L):=by
 obtain⟨p',⟨h1,h2⟩,I⟩:=Jw.open I;refine EN func354 ntmps354 rfl rfl λa E=>?_;refine bW 0 [13] [0,1,2,3,1004,5,6,7,8,10,11,12,14,15,3009,1013,1016,17,18,19,20,1021] E I λa w E I hH hC=>?_;refine RH 6 E I hH hC λa E=>?_;refine E.by (s:=11) (λjg E=>?_) (λjg E=>?_)
 ·
  refine RH 15 E I hH hC λa E=>?_;refine ST 0 E I (λa w E I=>?_);refine RT 0 E I ?_;exact⟨g,true,rfl,.inl ⟨rfl,rfl⟩,Jw.close (p':=p') I.sub h1 (λ_=>h2 jg)⟩
 refine RH 10 E I hH hC λa E=>?_;refine aX 0 E I (Xj (i:=i) (x:=⟨px.id,px.refs,g,p'⟩) (v:=v) (I.store q) (by simp[hx]) hc) λok p2 a w E ⟨dj,Xn⟩=>?_;obtain⟨JR,I⟩:(ok=ok)∧U W w (ax q r { A with av:=A.av.set i ⟨px.id,px.refs,if ok then ck g c v else g,if ok then p2 else p'⟩ }::aa bc 307 [pt q,.int .i64 px.id,.bool bad]::L):=by
  refine⟨rfl,?_⟩;rcases Xn with ⟨rfl,I⟩ | ⟨rfl,I⟩
  ·simp only[set_set]at I;exact I
  ·exact I
 refine ST 4 E I (λa w E I=>?_);refine RT 0 E I ?_;refine⟨if ok then ck g c v else g,!ok,rfl,?_,Jw.close (p':=if ok then p2 else p') I.sub ?_ (λh=>?_)⟩
 ·cases ok
  ·exact .inl ⟨rfl,rfl⟩
  ·exact .inr ⟨rfl,jg,rfl⟩
 ·cases ok
  ·exact h1
  ·exact Xk h1 hv
 ·have:=dj (by simpa using h);simpa using this
theorem Xo (hx:i<A.av.length):yK W 305 ⟨bc,0,none⟩ 353 354 (Jw q r bc i A px) where
 oN:=λad w=>by kernel_rfl
 oO:=(by kernel_rfl)
 A9:=λad w=>by kernel_rfl
 wm:=(by kernel_rfl)
 ok:=λw L g bad h=>by obtain⟨_,⟨h1,_⟩,_⟩:=Jw.open h;exact h1
 get:=λw L g bad c hc h=>Xl hx hc h
 set:=λw L g bad c v hc hv h=>Xm hx hc hv h
end
end
section
abbrev cy (p:Pr)(an:Option Addr)(cO tq jq sq:Nat)(k:Wk):List Value :=
 [.string p.title,.slice an p.ops.length cO,pt tq,pt jq,pt sq,.bool k.busy,.int .i64 k.jb,.int .i64 k.je,.int .i64 k.x,.int .i64 k.done,.bool k.mK]
section
variable {W w:World}{L:List SP}{tq jq sq r wb i kk cO:Nat}{an:Option Addr}{A:Sn}{T:Tr}{J:Js}{k:Wk}{p:Pr}{x:Br}{px:aC}
theorem KC (I:U W w (aa wb 247 (cy p an cO tq jq sq k)::L)) :
   Calls prog 184 #[pt wb] w λe V=>e=.returned (.bool k.busy)∧U W V (aa wb 247 (cy p an cO tq jq sq k)::L):=by
 refine EN func184 ntmps184 rfl rfl λa E=>?_;refine RN 6 E I λa E=>?_;replace E:=E.eG 5;refine RT 6 E I ?_;exact⟨rfl,I⟩
theorem yP (I:U W w (aa wb 247 (cy p an cO tq jq sq k)::ax sq r A::L))(hb:k.busy=true) :
   Calls prog 145 #[pt wb] w λe V=>e=.returned (.bool true)∧U W V (aa wb 247 (cy p an cO tq jq sq { k with busy:=false })::ax sq r (A.eI k.x)::L):=by
 refine EN func145 ntmps145 rfl rfl λa E=>?_;refine CL 5 E I (KC I) λa w E I=>?_;rw[hb]at E;refine RN 1 E I λa E=>?_;replace E:=E.aK 5;refine bW 2 [7] [0,1,2,4,5,6,3003,1007,1008] E I λa w E I hH hC=>?_;refine RH 8 E I hH hC λa E=>?_;refine aW 0 E I (AU (I.store sq)) λv a w E I=>?_;refine ST 4 E I (λa w E I=>?_) (hlt:=(by simp[cy]));change U W w (aa wb 247 (cy p an cO tq jq sq { k with busy:=false })::_) at I;refine RT 2 E I ?_;exact⟨rfl,I.sub⟩
theorem KD (I:U W w (aa wb 247 (cy p an cO tq jq sq k)::L))(hb:k.busy=false) :
   Calls prog 145 #[pt wb] w λe V=>e=.returned (.bool false)∧U W V (aa wb 247 (cy p an cO tq jq sq k)::L):=by
 refine EN func145 ntmps145 rfl rfl λa E=>?_;refine CL 5 E I (KC I) λa w E I=>?_;rw[hb]at E;refine RN 1 E I λa E=>?_;replace E:=E.eG 5;refine RT 3 E I ?_;exact⟨rfl,I⟩
theorem Bb {id:Int}(I:U W w (Tree tq sq T::L)) :
   Calls prog 143 #[pt tq,.int .i64 id] w λe V=>∃ (x:Br) (ad:Option Addr) (c:Nat) (ok:Bool),e=.returned (.tuple #[.agg (cg x ad c).toArray,.bool ok])∧((ok=true∧x∈T.l∧(x.id:Int)=id)∨(ok=false∧∀ y∈T.l,(y.id:Int)≠id)) ∧
    U W V (cd ad x.al.length c x.al::Tree tq sq T::L):=by
 by_cases h:∃ x∈T.l,(x.id:Int)=id
 ·obtain⟨x,hx,rfl⟩:=h;obtain⟨k,hk⟩:=j5.1 hx;exact (yr I hk).mono λe V ⟨ad,c,h1,I⟩=>⟨x,ad,c,true,h1,.inl ⟨rfl,hx,rfl⟩,I⟩
 ·have hn:∀ y∈T.l,(y.id:Int)≠id:=λy hy e=>h ⟨y,hy,e⟩;exact (VK I hn).mono λe V ⟨h1,I⟩=>⟨⟨0,0,[],0,0⟩,none,0,false,h1,.inr ⟨rfl,hn⟩,cd.nil I⟩
theorem Xp {id:Nat}(I:U W w (ax sq r A::L))(hx:A.av[i]?=some px)(bX:px.id=id)(hb:A.n+1<1099511627776) :
   Calls prog 181 #[pt sq,.int .i64 id] w λe V=>e=.returned (.tuple #[.int .i64 ((A.last+1:Nat):Int),.bool true])∧U W V (ax sq r (A.add px.g px.p)::L):=by
 subst bX;exact JJ I hx hb
theorem Xq {d:Nat}{id:Nat}(I:U W w (Tree tq sq T::ax sq r A::L))(hx:T.l[kk]?=some x)(kG:d≤x.al.length)(hp:A.av[i]?=some px)(bX:px.id=id) :
   Calls prog 186 #[pt tq,.int .i64 x.id,.int .i64 d,.int .i64 id] w λe V=>e=.returned (.bool (decide (x.done<d))) ∧
    ((x.done<d∧U W V (Tree tq sq (T.iL kk x d id)::ax sq r (A.eI x.snap)::L))∨(d≤x.done∧U W V (Tree tq sq T::ax sq r A::L))):=by
 subst bX;by_cases h:x.done<d
 ·exact (VR I hx h kG hp).mono λe V ⟨h1,I⟩=>⟨by rw[h1,dp h],.inl ⟨h,I⟩⟩
 ·exact (VP (d:=(d:Int)) (i:=i) (px:=px) I hx (.inl (by omega))).mono λe V ⟨h1,I⟩=>⟨by rw[h1,bn h],.inr ⟨by omega,I⟩⟩
theorem Xr {A:Sn}{i:Nat}{px:aC}{g:Nat→Int}{p':Nat→Nat}(hA:WF A)(hB:WF { A with av:=A.av.set i ⟨px.id,px.refs,g,p'⟩ })(hi:A.av[i]?=some px)(hr:px.refs=1) :
   ({ A with av:=A.av.set i ⟨px.id,px.refs,g,p'⟩ }:Sn).eI px.id=A.eI px.id:=by
 have hl:=(aZ.1 hi).1;rw[yw hA hi,yw (px:=⟨px.id,px.refs,g,p'⟩) hB (i:=i) (by simp[hl])];simp[Sn.drop,hr,eraseIdx_set_eq]
theorem Xs (I:U W w (aa wb 247 (cy p an cO tq jq sq k)::Tree tq sq T::ax sq r A::bL jq J::L))(hb:k.busy=false)(Xt:∀ x∈T.l,∃ (i:Nat) (px:aC),A.av[i]?=some px∧px.id=x.snap)(hn:A.n+1<1099511627776) :
   Calls prog 142 #[pt wb] w λe V=>∃ (z:Bool) (A':Sn) (J':Js) (k':Wk),e=.returned (.bool z)∧lG p A T J k z A' T J' k' ∧
    U W V (aa wb 247 (cy p an cO tq jq sq k')::Tree tq sq T::ax sq r A'::bL jq J'::L):=by
 refine EN func142 ntmps142 rfl rfl λa E=>?_;refine CL 7 E I (Wn (I.uN jq)) λa w E I=>?_;refine AL 3 E I λb3 a w E I=>?_;refine SA 0 E I λa w E I=>?_;refine IF 5 E I (λaj a E=>?_) λaj a E=>?_
 ·
  obtain rfl:J=[]:=by simpa using aj
  change U W w (aa b3 245 [.int .i64 0,.int .i64 0]::bL jq []::_) at I;refine RT 2 E I ?_;exact⟨false,A,[],k,rfl,.idle hb rfl,I.sub⟩
 obtain⟨j,J',rfl⟩:∃ j J',J=j::J':=by
  cases J with
  | nil=>simp at aj
  | cons j J'=>exact⟨j,J',rfl⟩
 change U W w (aa b3 245 [.int .i64 j.1,.int .i64 j.2]::bL jq J'::_) at I;replace E:=E.ab [0,3];clear aj;refine RN 0 E I λa E=>?_;refine cc (M:=λa w=>∃ (b5:Nat) (x:Br) (ad:Option Addr) (c:Nat) (ok:Bool),((ok=true∧x∈T.l∧(x.id:Int)=j.1)∨(ok=false∧∀ y∈T.l,(y.id:Int)≠j.1))∧Fr a 85 [(0,pt wb),(3,pt b3),(5,pt b5),(6,.bool ok)]∧U W w (aa b5 238 (cg x ad c)::aa b3 245 [.int .i64 j.1,.int .i64 j.2]::bL jq J'::aa wb 247 (cy p an cO tq jq sq k)::Tree tq sq T::ax sq r A::L)) ?_ ?_
 ·
  refine a1 0 (λw0 V=>Rd V wb 0 (cy p an cO tq jq sq k)∧Rd V b3 0 [.int .i64 j.1,.int .i64 j.2]) [5,10] [0,1,2,4,3003,3005,2006,7,8,9,1010,1011,12] E I λa w E I hH=>?_;have hC:=hH.at w (And.intro I.ai I.ai);refine RH 4 E I hH hC λa E=>?_;refine QH E (λw hc=>ae E (hc.1 2 _ rfl)) hC λa E=>?_;refine QH E (λw hc=>ae E (hc.2 0 _ rfl)) hC λa E=>?_;refine RH 0 E I hH hC λa E=>?_;refine DN [(6,[7,8,9,1010,1011,12]),(10,[1006,7,8,9,1011,12])] (by kernel_rfl) rfl ⟨⟨_,rfl,?_⟩,⟨_,rfl,?_⟩,trivial⟩
  ·
   refine RH 0 E I hH hC λa E=>?_;refine j2 0 E I (Bb (id:=j.1) (I.tree tq)) ?_;clear E I;rintro e w ⟨x,ad,c,ok,rfl,dj,I⟩;refine⟨_,rfl,λa E=>?_⟩;refine RN 3 E I λa E=>?_;refine e5 E rfl I Ty.t238 rfl λb5 a w E I ho=>?_;clear ho;replace hC:=hH.at w (And.intro I.ai I.ai);refine RH 0 E I hH hC λa E=>?_;refine SA 0 E I λa w E I=>?_;refine RN 1 E I λa E=>?_;exact⟨_,x,ad,c,ok,dj,E.ab [0,3,5,6],I.sub⟩
  refine RH 0 E I hH hC λa E=>?_;refine e5 E rfl I Ty.t238 rfl λb5 a w E I ho=>?_;clear ho;replace hC:=hH.at w (And.intro I.ai I.ai);refine RH 0 E I hH hC λa E=>?_;refine j2 0 E I (Bb (id:=j.1) (I.tree tq)) ?_;clear E I;rintro e w ⟨x,ad,c,ok,rfl,dj,I⟩;refine⟨_,rfl,λa E=>?_⟩;refine SA 3 E I λa w E I=>?_;refine RN 1 E I λa E=>?_;exact⟨_,x,ad,c,ok,dj,E.ab [0,3,5,6],I.sub⟩
 clear E;(try clear I);rintro a w ⟨b5,x,ad,c,ok,dj,E,I⟩;refine a1 2 (λw0 V=>Rd V wb 0 (cy p an cO tq jq sq k)∧Rd V b3 0 [.int .i64 j.1,.int .i64 j.2]∧Rd V b5 0 (cg x ad c)) [5,6,16,17] [0,2,3,4,3001,1005,1006,7,8,9,10,11,12,13,15,3014,1016,1017,18,19] E I λa w E I hH=>?_;have hC:=hH.at w ⟨I.ai,I.ai,I.ai⟩;refine RH 4 E I hH hC λa E=>?_;refine QH E (λw hc=>ae E (hc.2.1 1 _ rfl)) hC λa E=>?_;refine RH 1 E I hH hC λa E=>?_;refine CL 0 E I (AR (I.tree tq)) λa w E I=>?_;replace hC:=hH.at w ⟨I.ai,I.ai,I.ai⟩;refine RH 2 E I hH hC λa E=>?_;refine E.by (s:=36) (λek E=>?_) (λek E=>?_)
 ·
  refine RH 11 E I hH hC λa E=>?_;refine RT 3 E I ?_;exact⟨true,A,J',k,rfl,.yB hb rfl (.inl ek),I.sub⟩
 refine RH 4 E I hH hC λa E=>?_;refine E.by (s:=40) (λic E=>?_) (λic E=>?_)
 ·
  have b6:∀ y∈T.l,(y.id:Int)≠j.1:=by
   rcases dj with ⟨h,_⟩ | ⟨_,h⟩
   ·rw[h]at ic;cases ic
   ·exact h
  refine RH 7 E I hH hC λa E=>?_;refine RT 3 E I ?_;exact⟨true,A,J',k,rfl,.yB hb rfl (.inr (.inl b6)),I.sub⟩
 obtain⟨hx,bX⟩:x∈T.l∧(x.id:Int)=j.1:=by
  rcases dj with ⟨_,h⟩ | ⟨h,_⟩
  ·exact h
  ·rw[h]at ic;cases ic
 refine RH 2 E I hH hC λa E=>?_;refine QH E (λw hc=>ae E (hc.2.2 3 _ rfl)) hC λa E=>?_;refine RH 0 E I hH hC λa E=>?_;refine bu E (cu E rfl (s:=40)) (ae E (hC.2.2 2 _ rfl)) rfl λa E=>?_;refine RH 3 E I hH hC λa E=>?_;refine IF 0 E I (λao a E=>?_) λao a E=>?_
 ·
  refine RT 2 E I ?_;exact⟨true,A,J',k,rfl,.yB hb rfl (.inr (.inr ⟨x,hx,bX,by omega⟩)),I.sub⟩
 refine RN 1 E I λa E=>?_;obtain⟨i,px,hQ,lg⟩:=Xt x hx;refine a1 0 (λw0 V=>Rd V wb 0 (cy p an cO tq jq sq k)∧Rd V b5 0 (cg x ad c)) [5] [0,1,2,4,3003,1005,1006,7,8,9,10,11] E I λa w E I hH=>?_;have hC:=hH.at w ⟨I.ai,I.ai⟩;refine RH 4 E I hH hC λa E=>?_;refine QH E (λw hc=>ae E (hc.1 4 _ rfl)) hC λa E=>?_;refine RH 0 E I hH hC λa E=>?_;refine SS E (ae E (hC.2 4 _ rfl)) λa E=>?_;refine RH 0 E I hH hC λa E=>?_;refine CL 0 E I (Xp (I.store sq) hQ lg hn) λa w E I=>?_;refine RN 5 E I λa E=>?_;refine RN 4 E I λa E=>?_;replace E:=E.aK 59;refine a1 2 (λw0 V=>Rd V b3 0 [.int .i64 j.1,.int .i64 j.2]∧Rd V b5 0 (cg x ad c)) [8,11,12,13,14,15,16,17] [0,1,2,3,4,6,7,9,10,3005,3008,1011,1012,1013,1014,1015,1016,1017,18,19,1020,21,22,1023] E I λa w E I hH=>?_;have hC:=hH.at w ⟨I.ai,I.ai⟩;refine RH 9 E I hH hC λa E=>?_;refine QH E (λw hc=>bQ E underlying245 rfl Ty.t245 (hc.1)) hC λa E=>?_;refine QH E (λw hc=>ae E (hc.2 3 _ rfl)) hC λa E=>?_;refine RH 0 E I hH hC λa E=>?_;refine ST 0 E I (λa w E I=>?_) (hlt:=(by simp[cy]));replace hC:=hH.at w ⟨I.ai,I.ai⟩;refine RH 2 E I hH hC λa E=>?_;refine rj E rfl I Ty.t245 (by simp[Value.oneCell']) (by simp[cy]) λa w E I=>?_;replace hC:=hH.at w ⟨I.ai,I.ai⟩;refine RH 2 E I hH hC λa E=>?_;refine ST 0 E I (λa w E I=>?_) (hlt:=(by simp[cy,cD]));replace hC:=hH.at w ⟨I.ai,I.ai⟩;refine RH 2 E I hH hC λa E=>?_;refine ST 0 E I (λa w E I=>?_) (hlt:=(by simp[cy,cD]));refine ST 2 E I (λa w E I=>?_) (hlt:=(by simp[cy,cD]));refine RN 0 E I λa E=>?_;change U W w (aa wb 247 (cy p an cO tq jq sq ⟨true,j.1,j.2,A.last+1,x.done,false⟩)::_) at I;refine RT 2 E I ?_;exact⟨true,A.add px.g px.p,J',⟨true,j.1,j.2,A.last+1,x.done,false⟩,rfl,.Ez hb rfl ek hx bX (by omega) hQ lg,I.sub⟩
theorem Xu {ad:Option Addr}{c:Nat}(I:U W w (aa wb 247 (cy p an cO tq jq sq k)::cd ad x.al.length c x.al::Tree tq sq T::ax sq r A::bL jq J::az W p an cO::L))
   (hb:k.busy=true) (he:k.je=T.epoch) (hx:x∈T.l) (bX:(x.id:Int)=k.jb) (eO:k.mK=false) (hi:A.av[i]?=some px) (yQ:px.id=k.x) (hr:px.refs=1) (hg:dT px.g) (hd:k.done<x.al.length) (hf:0≤x.frm∧x.frm≤1099511627776)
   (a7:dq p) (aE:p.title.size≤1000000000) (kL:J.length≤16) :
   Calls prog 146 #[pt wb,.agg (cg x ad c).toArray] w λe V=>∃ (A':Sn) (J':Js) (k':Wk),e=.returned (.tuple #[])∧lG p A T J k true A' T J' k' ∧
    U W V (aa wb 247 (cy p an cO tq jq sq k')::Tree tq sq T::ax sq r A'::bL jq J'::az W p an cO::L):=by
 have lh:=Tree.wt (I.tree tq);have hA:=(ax.facts (I.store sq)).1;have Bd:=(lh.ok x hx).1;have aF:=(aZ.1 hi).1;have mL:x.al.length≤65536:=Bd.1;refine EN func146 ntmps146 rfl rfl λa E=>?_;refine BX 1 E I λb3 a w E I=>?_;change U W w (aa b3 238 (cg x ad c)::_) at I;refine bW 1 [7] [0,1,2,4,5,6,3003,1007,8,1009,10] E I λa w E I hH hC=>?_;refine RH 9 E I hH hC λa E=>?_;refine x4 E rfl I rfl λeT a w E I ho=>?_;replace hC:=hC.trans ho;clear ho;change U W w (aa eT 307 [pt sq,.int .i64 k.x,.bool false]::_) at I;refine RH 1 E I hH hC λa E=>?_;refine RN 1 E I λa E=>?_;obtain⟨zs,hz,jt,I⟩:=cd.open (I.pick (cd ad x.al.length c x.al));obtain⟨bb,oo,rfl,dh⟩:=I.drew.bY ad (by omega);have KE:zs.length=x.al.length:=by rw[← hz,bf]
 have KF:zs[k.done]?=some (zs[k.done]'(by omega)):=aD (by omega);have KG:x.al[k.done]?=some (zs[k.done]'(by omega)).2.2:=by rw[← hz,bm,KF];rfl
 have kD:=dh k.done _ (by rw[bm,KF];rfl);have E0:Rd w.drew wb 0 (cy p an cO tq jq sq k):=I.drew.ai;have lI:Rd w.drew wb 0 (bx p an cO):=E0.part 0 2;have KH:Rd w.drew b3 0 (cg x (some ⟨bb,oo,none⟩) c):=I.drew.ai;have Xv:(zs[k.done]'(by omega)).2.2.length≤1099511627776:=Bd.2 _ (bH KG);refine qy 0 (λV=>Rd V wb 0 (cy p an cO tq jq sq k)∧Rd V wb 0 (bx p an cO)∧Rd V b3 0 (cg x (some ⟨bb,oo,none⟩) c)∧V.cell? ⟨bb,oo+k.done,none⟩=some (aM (zs[k.done]'(by omega)))) [5,7,11,12,14,18,19,20] [0,1,2,4,6,8,9,10,13,15,16,17,3003,3007,3011,3012,3014,3018,3019,3020,1005,1021] E I λa E=>?_;replace I:=I.drew;generalize w.drew=w at I kD E0 lI KH ⊢;have hC:=And.intro E0 (And.intro lI (And.intro KH kD));have hH:=Hd.any (λV=>Rd V wb 0 (cy p an cO tq jq sq k)∧Rd V wb 0 (bx p an cO)∧Rd V b3 0 (cg x (some ⟨bb,oo,none⟩) c)∧V.cell? ⟨bb,oo+k.done,none⟩=some (aM (zs[k.done]'(by omega))));refine RH 12 E I hH hC λa E=>?_;refine QH E (λw hc=>bQ E underlying45 rfl Ty.t45 (hc.2.1)) hC λa E=>?_;refine QH E (λw hc=>ae E (hc.2.2.1 1 _ rfl)) hC λa E=>?_;refine QH E (λw hc=>ae E (hc.1 9 _ rfl)) hC λa E=>?_;refine RH 1 E I hH hC λa E=>?_;refine QH E (λw hc=>ae E (hc.2.2.1 2 _ rfl)) hC λa E=>?_;refine QH E (λw hc=>ae E (hc.1 9 _ rfl)) hC λa E=>?_;refine RH 1 E I hH hC λa E=>?_;refine QH E (λw hc=>ae E (hc.2.2.2)) hC λa E=>?_;refine RH 1 E I hH hC λa E=>?_;have cI:U W w (ax sq r { A with av:=A.av.set i ⟨px.id,px.refs,px.g,px.p⟩ }::aa eT 307 [pt sq,.int .i64 k.x,.bool false]::az W p an cO::Sl 22 1 (some ⟨bb,oo,none⟩) x.al.length c (zs.map aM)::ah ba zs::aa wb 247 (cy p an cO tq jq sq k)::aa b3 238 (cg x (some ⟨bb,oo,none⟩) c)::Tree tq sq T::bL jq J::L):=by
  rw[show ({ A with av:=A.av.set i ⟨px.id,px.refs,px.g,px.p⟩ }:Sn)=A from by rw[← yq hi]];exact I.sub
 rw[← yQ]at cI;have nQ:=Jw.close (i:=i) (A:=A) (px:=px) (g:=px.g) (bad:=false) (p':=px.p) (cI.sub (M:=aa eT 307 [pt sq,.int .i64 px.id,.bool false]::ax sq r { A with av:=A.av.set i ⟨px.id,px.refs,px.g,px.p⟩ }::az W p an cO::Sl 22 1 (some ⟨bb,oo,none⟩) x.al.length c (zs.map aM)::ah ba zs::aa wb 247 (cy p an cO tq jq sq k)::aa b3 238 (cg x (some ⟨bb,oo,none⟩) c)::Tree tq sq T::bL jq J::L)) hg (λh=>by cases h);refine j1 0 E I (Kz (M:=Xo (W:=W) (q:=sq) (r:=r) (bc:=eT) (A:=A) (px:=px) (i:=i) aF) nQ a7 aE Xv (λV h=>(U.mB (h.sub (M:=Sl 22 1 (some ⟨bb,oo,none⟩) x.al.length c (zs.map aM)::ah ba zs::[]))).2 _ (iI _))) λjZ Ba tj a w E ⟨oR,I⟩=>?_;obtain⟨p2,⟨bA,Xw⟩,I⟩:=Jw.open I;have wP:=(ax.facts (I.store sq)).1;refine RN 0 E I λa E=>?_;refine IF 6 E I (λaj a E=>?_) λaj a E=>?_
 ·
  refine CL 2 E I (yP (L:=Tree tq sq T::bL jq J::az W p an cO::L) (I.sub (M:=aa wb 247 (cy p an cO tq jq sq k)::ax sq r { A with av:=A.av.set i ⟨px.id,px.refs,jZ,p2⟩ }::Tree tq sq T::bL jq J::az W p an cO::L)) hb) λa w E I=>?_;refine RN 0 E I λa E=>?_;have wQ:Rd w wb 6 [.int .i64 k.jb,.int .i64 k.je]:=(I.ai (b:=wb)).part 6 2;refine a1 1 (λw0 V=>Rd V wb 0 (cy p an cO tq jq sq { k with busy:=false })∧Rd V wb 6 [.int .i64 k.jb,.int .i64 k.je]) [7] [0,1,2,4,5,6,3003,1007,1008] E I λa w E I hH=>?_;replace wQ:Rd w wb 6 [.int .i64 k.jb,.int .i64 k.je]:=(I.ai (b:=wb)).part 6 2;have hC:=hH.at w ⟨I.ai,wQ⟩;refine RH 6 E I hH hC λa E=>?_;refine QH E (λw hc=>ae E (hc.1 3 _ rfl)) hC λa E=>?_;refine RH 0 E I hH hC λa E=>?_;refine SS E (bQ E underlying245 rfl Ty.t245 (hC.2)) λa E=>?_;refine RH 0 E I hH hC λa E=>?_;refine CL 0 E I (AX (I.uN jq) kL) λa w E I=>?_;change U W w (bL jq (l6 J k.jb k.je)::_) at I;refine RT 0 E I ?_;refine⟨A.eI k.x,l6 J k.jb k.je,{ k with busy:=false },rfl,.failed hb he hx bX eO (Xw aj),?_⟩;rw[← yQ,Xr hA wP hi hr] at *;exact I.sub
 refine ST 3 E I (λa w E I=>?_) (hlt:=(by simp[cy]));change U W w (aa wb 247 (cy p an cO tq jq sq { k with mK:=true })::_) at I;refine RT 0 E I ?_;obtain⟨_,nK⟩:=oR aj;subst nK;exact⟨_,J,{ k with mK:=true },rfl,.mK (p':=p2) hb he hx bX eO hi yQ KG bA,I.sub⟩
theorem Xx {ad:Option Addr}{c:Nat}(I:U W w (aa wb 247 (cy p an cO tq jq sq k)::Tree tq sq T::ax sq r A::bL jq J::L))
   (hb:k.busy=true) (he:k.je=T.epoch) (hx:T.l[kk]?=some x) (bX:(x.id:Int)=k.jb) (eO:k.mK=true) (hi:A.av[i]?=some px) (yQ:px.id=k.x) (hd:k.done<x.al.length) (kL:J.length≤16) :
   Calls prog 147 #[pt wb,.agg (cg x ad c).toArray] w λe V=>∃ (A':Sn) (T':Tr) (J':Js) (k':Wk),e=.returned (.tuple #[])∧lG p A T J k true A' T' J' k' ∧
    U W V (aa wb 247 (cy p an cO tq jq sq k')::Tree tq sq T'::ax sq r A'::bL jq J'::L):=by
 have lh:=Tree.wt (I.tree tq);have eh:=bH hx;have dS:=(aZ.1 hx).1;have Bd:=(lh.ok x eh).1;have mL:x.al.length≤65536:=Bd.1;refine EN func147 ntmps147 rfl rfl λa E=>?_;refine BX 1 E I λb3 a w E I=>?_;change U W w (aa b3 238 (cg x ad c)::_) at I;refine a1 2 (λw0 V=>Rd V wb 0 (cy p an cO tq jq sq k)∧Rd V b3 0 (cg x ad c)) [5,9,10,14] [0,1,2,4,6,7,8,11,12,13,3003,3005,3009,3010,1014,1015] E I λa w E I hH=>?_;have hC:=hH.at w ⟨I.ai,I.ai⟩;refine RH 10 E I hH hC λa E=>?_;refine QH E (λw hc=>ae E (hc.1 2 _ rfl)) hC λa E=>?_;refine QH E (λw hc=>ae E (hc.2 0 _ rfl)) hC λa E=>?_;refine QH E (λw hc=>ae E (hc.1 9 _ rfl)) hC λa E=>?_;refine RH 1 E I hH hC λa E=>?_;refine SS E (ae E (hC.1 8 _ rfl)) λa E=>?_;refine RH 0 E I hH hC λa E=>?_;refine CL 0 E I (Xq (kk:=kk) (d:=k.done+1) (L:=aa wb 247 (cy p an cO tq jq sq k)::aa b3 238 (cg x ad c)::bL jq J::L) (I.sub (M:=Tree tq sq T::ax sq r A::aa wb 247 (cy p an cO tq jq sq k)::aa b3 238 (cg x ad c)::bL jq J::L)) hx (by omega) hi yQ) λa w E KI=>?_;refine RN 0 E (U.start _) λa E=>?_;refine R5 0 E (U.start _) (λaj a E=>?_) λaj a E=>?_
 ·
  have hlt:x.done<k.done+1:=by simpa using aj
  replace I:=(KI.resolve_right (λh=>by omega)).2;refine ST 3 E I (λa w E I=>?_) (hlt:=(by simp[cy]));change U W w (aa wb 247 (cy p an cO tq jq sq { k with busy:=false })::_) at I;refine CL 2 E I (KD (k:={ k with busy:=false }) I rfl) λa w E I=>?_;refine RN 0 E I λa E=>?_;refine cc (M:=λa w=>∃ (b4:Nat) (ad2:Option Addr) (c2:Nat),Fr a 55 [(0,pt wb),(4,pt b4),(5,.bool true)]∧U W w (aa b4 238 (cg { x with done:=k.done+1,snap:=k.x } ad2 c2)::aa wb 247 (cy p an cO tq jq sq { k with busy:=false })::Tree tq sq (T.iL kk x (k.done+1) k.x)::ax sq r (A.eI x.snap)::bL jq J::L)) ?_ ?_
  ·
   refine a1 0 (λw0 V=>Rd V wb 0 (cy p an cO tq jq sq { k with busy:=false })∧Rd V b3 0 (cg x ad c)) [5,10] [0,1,2,4,3003,3005,2006,7,8,9,1010,1011,12] E I λa w E I hH=>?_;have hC:=hH.at w ⟨I.ai,I.ai⟩;refine RH 4 E I hH hC λa E=>?_;refine QH E (λw hc=>ae E (hc.1 2 _ rfl)) hC λa E=>?_;refine QH E (λw hc=>ae E (hc.2 0 _ rfl)) hC λa E=>?_;refine RH 0 E I hH hC λa E=>?_;refine DN [(6,[7,8,9,1010,1011,12]),(10,[1006,7,8,9,1011,12])] (by kernel_rfl) rfl ⟨⟨_,rfl,?_⟩,⟨_,rfl,?_⟩,trivial⟩
   ·
    refine RH 0 E I hH hC λa E=>?_;refine aX 0 E I (yr (x:={ x with done:=k.done+1,snap:=k.x }) (k:=kk) (I.tree tq) (by simp[Tr.iL,dS])) λad2 c2 a w E I=>?_;refine RN 3 E I λa E=>?_;refine e5 E rfl I Ty.t238 rfl λb4 a w E I ho=>?_;clear ho;replace hC:=hH.at w (And.intro I.ai I.ai);refine RH 0 E I hH hC λa E=>?_;refine SA 0 E I λa w E I=>?_;refine RN 1 E I λa E=>?_;exact⟨_,ad2,c2,E.ab [0,4,5],I.sub⟩
   refine RH 0 E I hH hC λa E=>?_;refine e5 E rfl I Ty.t238 rfl λb4 a w E I ho=>?_;clear ho;replace hC:=hH.at w (And.intro I.ai I.ai);refine RH 0 E I hH hC λa E=>?_;refine aX 0 E I (yr (x:={ x with done:=k.done+1,snap:=k.x }) (k:=kk) (I.tree tq) (by simp[Tr.iL,dS])) λad2 c2 a w E I=>?_;refine SA 3 E I λa w E I=>?_;refine RN 1 E I λa E=>?_;exact⟨_,ad2,c2,E.ab [0,4,5],I.sub⟩
  clear E;(try clear I);rintro a w ⟨b4,ad2,c2,E,I⟩;refine RN 3 E I λa E=>?_;replace E:=E.eG 38;refine IF 7 E I (λao a E=>?_) λao a E=>?_
  ·
   replace ao:((k.done+1:Nat):Int)<((x.al.length:Nat):Int):=ao;refine a1 0 (λw0 V=>Rd V wb 0 (cy p an cO tq jq sq { k with busy:=false })∧Rd V wb 6 [.int .i64 k.jb,.int .i64 k.je]) [7] [0,1,2,4,5,6,3003,1007,1008] E I λa w E I hH=>?_;have wQ:Rd w wb 6 [.int .i64 k.jb,.int .i64 k.je]:=(I.ai (b:=wb)).part 6 2;have hC:=hH.at w ⟨I.ai,wQ⟩;refine RH 6 E I hH hC λa E=>?_;refine QH E (λw hc=>ae E (hc.1 3 _ rfl)) hC λa E=>?_;refine RH 0 E I hH hC λa E=>?_;refine SS E (bQ E underlying245 rfl Ty.t245 (hC.2)) λa E=>?_;refine RH 0 E I hH hC λa E=>?_;refine CL 0 E I (AX (I.uN jq) kL) λa w E I=>?_;change U W w (bL jq (l6 J k.jb k.je)::_) at I;refine RT 0 E I ?_;refine⟨_,_,if k.done+1<x.al.length then l6 J k.jb k.je else J,{ k with busy:=false },rfl,.iL (x:=x) (kk:=kk) hb he hx bX eO hlt (by omega),?_⟩;rw[ak (by omega)];exact I.sub
  replace ao:((x.al.length:Nat):Int)≤((k.done+1:Nat):Int):=ao;refine RT 0 E I ?_;refine⟨_,_,if k.done+1<x.al.length then l6 J k.jb k.je else J,{ k with busy:=false },rfl,.iL (x:=x) (kk:=kk) hb he hx bX eO hlt (by omega),?_⟩;rw[ag (by omega)];exact I.sub
 have hlt:k.done+1≤x.done:=by
  have:=of_decide_eq_false aj;omega
 replace I:=(KI.resolve_left (λh=>by omega)).2;refine CL 2 E I (yP (L:=aa b3 238 (cg x ad c)::Tree tq sq T::bL jq J::L) (I.sub (M:=aa wb 247 (cy p an cO tq jq sq k)::ax sq r A::aa b3 238 (cg x ad c)::Tree tq sq T::bL jq J::L)) hb) λa w E I=>?_;refine RN 0 E I λa E=>?_;refine cc (M:=λa w=>∃ (b4:Nat) (ad2:Option Addr) (c2:Nat),Fr a 55 [(0,pt wb),(4,pt b4),(5,.bool true)]∧U W w (aa b4 238 (cg x ad2 c2)::aa wb 247 (cy p an cO tq jq sq { k with busy:=false })::Tree tq sq T::ax sq r (A.eI k.x)::bL jq J::L)) ?_ ?_
 ·
  refine a1 0 (λw0 V=>Rd V wb 0 (cy p an cO tq jq sq { k with busy:=false })∧Rd V b3 0 (cg x ad c)) [5,10] [0,1,2,4,3003,3005,2006,7,8,9,1010,1011,12] E I λa w E I hH=>?_;have hC:=hH.at w ⟨I.ai,I.ai⟩;refine RH 4 E I hH hC λa E=>?_;refine QH E (λw hc=>ae E (hc.1 2 _ rfl)) hC λa E=>?_;refine QH E (λw hc=>ae E (hc.2 0 _ rfl)) hC λa E=>?_;refine RH 0 E I hH hC λa E=>?_;refine DN [(6,[7,8,9,1010,1011,12]),(10,[1006,7,8,9,1011,12])] (by kernel_rfl) rfl ⟨⟨_,rfl,?_⟩,⟨_,rfl,?_⟩,trivial⟩
  ·
   refine RH 0 E I hH hC λa E=>?_;refine aX 0 E I (yr (x:=x) (k:=kk) (I.tree tq) hx) λad2 c2 a w E I=>?_;refine RN 3 E I λa E=>?_;refine e5 E rfl I Ty.t238 rfl λb4 a w E I ho=>?_;clear ho;replace hC:=hH.at w (And.intro I.ai I.ai);refine RH 0 E I hH hC λa E=>?_;refine SA 0 E I λa w E I=>?_;refine RN 1 E I λa E=>?_;exact⟨_,ad2,c2,E.ab [0,4,5],I.sub⟩
  refine RH 0 E I hH hC λa E=>?_;refine e5 E rfl I Ty.t238 rfl λb4 a w E I ho=>?_;clear ho;replace hC:=hH.at w (And.intro I.ai I.ai);refine RH 0 E I hH hC λa E=>?_;refine aX 0 E I (yr (x:=x) (k:=kk) (I.tree tq) hx) λad2 c2 a w E I=>?_;refine SA 3 E I λa w E I=>?_;refine RN 1 E I λa E=>?_;exact⟨_,ad2,c2,E.ab [0,4,5],I.sub⟩
 clear E;(try clear I);rintro a w ⟨b4,ad2,c2,E,I⟩;refine RN 3 E I λa E=>?_;replace E:=E.eG 38;refine IF 7 E I (λao a E=>?_) λao a E=>?_
 ·
  refine a1 0 (λw0 V=>Rd V wb 0 (cy p an cO tq jq sq { k with busy:=false })∧Rd V wb 6 [.int .i64 k.jb,.int .i64 k.je]) [7] [0,1,2,4,5,6,3003,1007,1008] E I λa w E I hH=>?_;have wQ:Rd w wb 6 [.int .i64 k.jb,.int .i64 k.je]:=(I.ai (b:=wb)).part 6 2;have hC:=hH.at w ⟨I.ai,wQ⟩;refine RH 6 E I hH hC λa E=>?_;refine QH E (λw hc=>ae E (hc.1 3 _ rfl)) hC λa E=>?_;refine RH 0 E I hH hC λa E=>?_;refine SS E (bQ E underlying245 rfl Ty.t245 (hC.2)) λa E=>?_;refine RH 0 E I hH hC λa E=>?_;refine CL 0 E I (AX (I.uN jq) kL) λa w E I=>?_;change U W w (bL jq (l6 J k.jb k.je)::_) at I;refine RT 0 E I ?_;refine⟨_,_,if x.done<x.al.length then l6 J k.jb k.je else J,{ k with busy:=false },rfl,.lost (x:=x) hb he eh bX eO hlt,?_⟩;rw[ak (by omega)];exact I.sub
 refine RT 0 E I ?_;refine⟨_,_,if x.done<x.al.length then l6 J k.jb k.je else J,{ k with busy:=false },rfl,.lost (x:=x) hb he eh bX eO hlt,?_⟩;rw[ag (by omega)];exact I.sub
structure KJ (p:Pr)(A:Sn)(T:Tr)(J:Js)(k:Wk):Prop where
 pr:dq p
 sz:p.title.size≤1000000000
 frm:∀ y∈T.l,0≤y.frm∧y.frm≤1099511627776
 gv:∀ x∈T.l,∃ (i:Nat) (px:aC),A.av[i]?=some px∧px.id=x.snap
 Xy:k.busy=true→(∃ (i:Nat) (px:aC),A.av[i]?=some px∧px.id=k.x∧px.refs=1∧dT px.g)∧∀ y∈T.l,(y.id:Int)=k.jb→k.done<y.al.length
 n:A.n+1<1099511627776
 len:J.length≤16
theorem Inv.ready {F:Int}{g0:Nat→Int}{t:Nat→Nat}{base:Nat}{ws:List Wk}(h:Inv p F g0 t base A T ws)(hk:k∈ws)(hF:0≤F∧F≤1099511627776)(hp:dq p)(hz:p.title.size≤1000000000)(hn:A.n+1<1099511627776)(kL:J.length≤16):KJ p A T J k :=
 ⟨hp,hz,λy hy=>by rw[(h.gk y hy).1];exact hF,λx hx=>h.Kj hx,λhb=>⟨by
  obtain⟨i,px,h1,h2⟩:=h.Wp hk hb;have h3:=h.av px (bH h1);exact⟨i,px,h1,h2,h3.1,h3.2⟩,λy hy he=>((h.lH k hk).2 hb y hy he).1⟩,hn,kL⟩
theorem Xz (I:U W w (aa wb 247 (cy p an cO tq jq sq k)::Tree tq sq T::ax sq r A::bL jq J::az W p an cO::L))(hr:KJ p A T J k) :
   Calls prog 102 #[pt wb] w λe V=>∃ (z:Bool) (A':Sn) (T':Tr) (J':Js) (k':Wk),e=.returned (.bool z)∧lG p A T J k z A' T' J' k' ∧
    U W V (aa wb 247 (cy p an cO tq jq sq k')::Tree tq sq T'::ax sq r A'::bL jq J'::az W p an cO::L):=by
 refine EN func102 ntmps102 rfl rfl λa E=>?_;refine RN 6 E I λa E=>?_;replace E:=E.aK 6;refine IF 8 E I (λao a E=>?_) λao a E=>?_
 ·
  refine j2 2 E I (Xs (p:=p) I ao hr.gv hr.n) ?_;clear E I;rintro e w ⟨z,A',J',k',rfl,uU,I⟩;refine⟨_,rfl,λa E=>?_⟩;refine RT 1 E I ?_;exact⟨z,A',T,J',k',rfl,uU,I⟩
 obtain⟨⟨i,px,hQ,lg,a7,tk⟩,c7⟩:=hr.Xy ao;refine RN 0 E I λa E=>?_;refine cc (M:=λa w=>∃ (b3:Nat) (x:Br) (ad:Option Addr) (c:Nat) (ok:Bool),((ok=true∧x∈T.l∧(x.id:Int)=k.jb)∨(ok=false∧∀ y∈T.l,(y.id:Int)≠k.jb))∧Fr a 57 [(0,pt wb),(3,pt b3),(4,.bool ok)]∧U W w (aa b3 238 (cg x ad c)::cd ad x.al.length c x.al::aa wb 247 (cy p an cO tq jq sq k)::Tree tq sq T::ax sq r A::bL jq J::az W p an cO::L)) ?_ ?_
 ·
  refine a1 0 (λw0 V=>Rd V wb 0 (cy p an cO tq jq sq k)) [8,13] [0,1,2,4,5,6,7,3003,3008,2009,10,11,12,1013,1014,15] E I λa w E I hH=>?_;have hC:=hH.at w I.ai;refine RH 7 E I hH hC λa E=>?_;refine QH E (λw hc=>ae E (hc 2 _ rfl)) hC λa E=>?_;refine QH E (λw hc=>ae E (hc 6 _ rfl)) hC λa E=>?_;refine RH 0 E I hH hC λa E=>?_;refine DN [(9,[10,11,12,1013,1014,15]),(13,[1009,10,11,12,1014,15])] (by kernel_rfl) rfl ⟨⟨_,rfl,?_⟩,⟨_,rfl,?_⟩,trivial⟩
  ·
   refine RH 0 E I hH hC λa E=>?_;refine j2 0 E I (Bb (id:=k.jb) (I.tree tq)) ?_;clear E I;rintro e w ⟨x,ad,c,ok,rfl,dj,I⟩;refine⟨_,rfl,λa E=>?_⟩;refine RN 3 E I λa E=>?_;refine e5 E rfl I Ty.t238 rfl λb3 a w E I ho=>?_;clear ho;replace hC:=hH.at w I.ai;refine RH 0 E I hH hC λa E=>?_;refine SA 0 E I λa w E I=>?_;refine RN 1 E I λa E=>?_;exact⟨_,x,ad,c,ok,dj,E.ab [0,3,4],I.sub⟩
  refine RH 0 E I hH hC λa E=>?_;refine e5 E rfl I Ty.t238 rfl λb3 a w E I ho=>?_;clear ho;replace hC:=hH.at w I.ai;refine RH 0 E I hH hC λa E=>?_;refine j2 0 E I (Bb (id:=k.jb) (I.tree tq)) ?_;clear E I;rintro e w ⟨x,ad,c,ok,rfl,dj,I⟩;refine⟨_,rfl,λa E=>?_⟩;refine SA 3 E I λa w E I=>?_;refine RN 1 E I λa E=>?_;exact⟨_,x,ad,c,ok,dj,E.ab [0,3,4],I.sub⟩
 clear E;(try clear I);rintro a w ⟨b3,x,ad,c,ok,dj,E,I⟩;refine a1 2 (λw0 V=>Rd V wb 0 (cy p an cO tq jq sq k)) [8,9] [0,1,2,3,5,6,7,3004,1008,1009,10,11,12,13,14,15] E I λa w E I hH=>?_;have hC:=hH.at w I.ai;refine RH 7 E I hH hC λa E=>?_;refine QH E (λw hc=>ae E (hc 7 _ rfl)) hC λa E=>?_;refine RH 0 E I hH hC λa E=>?_;refine SS E (ae E (hC 2 _ rfl)) λa E=>?_;refine RH 0 E I hH hC λa E=>?_;refine CL 0 E I (AR (I.tree tq)) λa w E I=>?_;replace hC:=hH.at w I.ai;refine RH 2 E I hH hC λa E=>?_;refine E.by (s:=42) (λk9 E=>?_) (λk9 E=>?_)
 ·
  refine RH 4 E I hH hC λa E=>?_;refine CL 2 E I (yP (L:=Tree tq sq T::bL jq J::az W p an cO::L) (I.sub (M:=aa wb 247 (cy p an cO tq jq sq k)::ax sq r A::Tree tq sq T::bL jq J::az W p an cO::L)) ao) λa w E I=>?_;refine RT 2 E I ?_;exact⟨true,A.eI k.x,T,J,{ k with busy:=false },rfl,.gone ao (.inl k9),I.sub⟩
 refine RH 4 E I hH hC λa E=>?_;refine IF 0 E I (λay a E=>?_) λay a E=>?_
 ·
  have b6:∀ y∈T.l,(y.id:Int)≠k.jb:=by
   rcases dj with ⟨h,_⟩ | ⟨_,h⟩
   ·rw[h]at ay;cases ay
   ·exact h
  refine CL 1 E I (yP (L:=Tree tq sq T::bL jq J::az W p an cO::L) (I.sub (M:=aa wb 247 (cy p an cO tq jq sq k)::ax sq r A::Tree tq sq T::bL jq J::az W p an cO::L)) ao) λa w E I=>?_;refine RT 2 E I ?_;exact⟨true,A.eI k.x,T,J,{ k with busy:=false },rfl,.gone ao (.inr b6),I.sub⟩
 obtain⟨hx,bX⟩:x∈T.l∧(x.id:Int)=k.jb:=by
  rcases dj with ⟨_,h⟩ | ⟨h,_⟩
  ·exact h
  ·rw[h]at ay;cases ay
 refine IF 7 E I (λbj a E=>?_) λbj a E=>?_
 ·
  refine j1 2 E I (Xu (I.sub (M:=aa wb 247 (cy p an cO tq jq sq k)::cd ad x.al.length c x.al::Tree tq sq T::ax sq r A::bL jq J::az W p an cO::L)) ao k9 hx bX bj hQ lg a7 tk (c7 x hx bX) (hr.frm x hx) hr.pr hr.sz hr.len) λA' J' k' a w E ⟨uU,I⟩=>?_;refine RT 2 E I ?_;exact⟨true,A',T,J',k',rfl,uU,I⟩
 obtain⟨kk,j4⟩:=j5.1 hx;refine j2 2 E I (Xx (p:=p) (L:=az W p an cO::L) (I.sub (M:=aa wb 247 (cy p an cO tq jq sq k)::Tree tq sq T::ax sq r A::bL jq J::az W p an cO::L)) ao k9 j4 bX bj hQ lg (c7 x hx bX) hr.len) ?_;clear E I;rintro e w ⟨A',T',J',k',rfl,uU,I⟩;refine⟨_,rfl,λa E=>?_⟩;refine RT 2 E I ?_;exact⟨true,A',T',J',k',rfl,uU,I⟩
end
end
section
theorem E1 {s:ByteArray}{j:Nat}(h:j<s.size):s.get! j=s[j]'h:=by
 have h2:j<s.data.size:=h;show s.data[j]! = s.data[j];rw[getElem!_pos s.data j h2]
theorem KK {s:ByteArray}{j:Nat}(h:s.size≤j):s.get! j=0:=by
 have h2:¬ j<s.data.size:=Nat.not_lt.2 h;show s.data[j]! = 0;rw[getElem!_neg s.data j h2];rfl
theorem rS (s:ByteArray)(p:Nat):(s.extract p s.size).size=s.size-p:=by simp[ByteArray.size_extract]
theorem XA (s:ByteArray)(p k:Nat):(s.extract p s.size).get! k=s.get! (p+k):=by
 by_cases h:p+k<s.size
 ·have h2:k<(s.extract p s.size).size:=by rw[rS];omega
  rw[E1 h2,E1 h,ByteArray.getElem_extract]
 ·rw[KK (by rw[rS];omega),KK (by omega)]
theorem XB (s:ByteArray)(p:Nat):Utf8.decode (s.extract p s.size) 0=Utf8.decode s p:=by
 have hc:∀ k,decide (k<s.size-p)=decide (p+k<s.size):=λk=>by
  by_cases h:p+k<s.size
  ·rw[dp h,dp (by omega)]
  ·rw[bn h,bn (by omega)]
 simp only[Utf8.decode,XA,rS,hc,ep,Nat.add_assoc]
theorem E2 (s:ByteArray)(p n:Nat):(s.extract p s.size).extract n (s.extract p s.size).size=s.extract (p+n) s.size:=by
 rw[rS,ByteArray.extract_extract]
 congr 1
 omega
def E3 (b n low r:Nat):Prop:=(b=192+r∧r<32∧n=2∧low=128)∨(b=224+r∧r<16∧n=3∧low=2048)∨(b=240+r∧r<8∧n=4∧low=65536)
def ke (s:ByteArray)(j:Nat):Nat:=(s.get! j).toNat
def gl (s:ByteArray)(r:Nat):Nat→Nat
 | 0=>r
 | j+1=>gl s r j*64+ke s (j+1)%64
theorem E4 (s:ByteArray)(j:Nat):ke s j<256:=(s.get! j).toNat_lt
theorem E5 {s:ByteArray}{r:Nat}(h:r<32):∀ j,gl s r j<32*64 ^ j
 | 0=>by simpa [gl] using h
 | j+1=>by
  have:=E5 (s:=s) h j;rw[gl,Nat.pow_succ];omega
def Be (low r:Nat):Prop:=r<low∨1114111<r∨(55296≤r∧r<57344)
section
variable {s:ByteArray}{b n low r:Nat}
theorem XC (hb:ke s 0=b)(h:b<128):Utf8.decode s 0=(b,1):=by
 simp only[ke]at hb;simp[Utf8.decode,hb,h]
theorem tl (hb:ke s 0=b)(h1:128≤b)(h2:b<192∨248≤b):Utf8.decode s 0=(0xFFFD,1):=by
 have:=E4 s 0;simp only[ke]at hb this;have e1:¬ b<128:=by omega
 have e2:(b/32==6)=false:=by rw[l3];omega
 have e3:(b/16==14)=false:=by rw[l3];omega
 have jr:(b/8==30)=false:=by rw[l3];omega
 simp[Utf8.decode,hb,e1,e2,e3,jr,Utf8.runeError]
theorem E6 (hb:ke s 0=b)(hd:E3 b n low r)(h:s.size<n∨∃ k,1≤k∧k<n∧ke s k/64≠2):Utf8.decode s 0=(0xFFFD,1):=by
 have hc:∃ k,1≤k∧k<n∧(decide (k<s.size)&&ke s k/64==2)=false:=by
  rcases h with h | ⟨k,h1,h2,h3⟩
  ·rcases lD s.size with h0 | h0
   ·exact⟨1,by omega,by rcases hd with h | h | h <;> omega,by rw[bn (by omega),Bool.false_and]⟩
   ·exact⟨s.size,by omega,h,by rw[bn (by omega),Bool.false_and]⟩
  ·exact⟨k,h1,h2,by rw[l3.2 h3,Bool.and_false]⟩
 obtain⟨k,h1,h2,h3⟩:=hc;simp only[ke]at hb h3;rcases hd with ⟨rfl,h4,rfl,rfl⟩ | ⟨rfl,h4,rfl,rfl⟩ | ⟨rfl,h4,rfl,rfl⟩
 ·have e1:¬ 192+r<128:=by omega
  have e2:((192+r)/32==6)=true:=by rw[beq_iff_eq];omega
  have e3:((192+r)/16==14)=false:=by rw[l3];omega
  have jr:((192+r)/8==30)=false:=by rw[l3];omega
  obtain rfl:k=1:=by omega
  simp only[Utf8.decode,ep,hb,e1,e2,e3,jr,h3,Utf8.runeError];simp
 ·have e1:¬ 224+r<128:=by omega
  have e2:((224+r)/32==6)=false:=by rw[l3];omega
  have e3:((224+r)/16==14)=true:=by rw[beq_iff_eq];omega
  have jr:((224+r)/8==30)=false:=by rw[l3];omega
  have hk:k=1∨k=2:=by omega
  rcases hk with rfl | rfl
  all_goals
   simp only[Utf8.decode,ep,hb,e1,e2,e3,jr,h3,Utf8.runeError];simp
 ·have e1:¬ 240+r<128:=by omega
  have e2:((240+r)/32==6)=false:=by rw[l3];omega
  have e3:((240+r)/16==14)=false:=by rw[l3];omega
  have jr:((240+r)/8==30)=true:=by rw[beq_iff_eq];omega
  have hk:k=1∨k=2∨k=3:=by omega
  rcases hk with rfl | rfl | rfl
  all_goals
   simp only[Utf8.decode,ep,hb,e1,e2,e3,jr,h3,Utf8.runeError];simp
theorem XD (hb:ke s 0=b)(hd:E3 b n low r)(I:n≤s.size)(h:∀ k,1≤k→k<n→ke s k/64=2) :
   (Be low (gl s r (n-1))→Utf8.decode s 0=(0xFFFD,1))∧(¬ Be low (gl s r (n-1))→Utf8.decode s 0=(gl s r (n-1),n)):=by
 simp only[Be];have hc:∀ k,1≤k→k<n→(decide (k<s.size)&&(s.get! k).toNat/64==2)=true:=λk h1 h2=>by
  rw[dp (by omega),Bool.true_and,beq_iff_eq];exact h k h1 h2
 have hlt:=E5 (s:=s) (r:=r) (by rcases hd with h | h | h <;> omega) (n-1);simp only[ke]at hb;rcases hd with ⟨rfl,h4,rfl,rfl⟩ | ⟨rfl,h4,rfl,rfl⟩ | ⟨rfl,h4,rfl,rfl⟩
 ·have e1:¬ 192+r<128:=by omega
  have e2:((192+r)/32==6)=true:=by rw[beq_iff_eq];omega
  have tm:gl s r (2-1)=(192+r)%32*64+(s.get! 1).toNat%64:=by
   show r*64+(s.get! 1).toNat%64=_;omega
  have kG:Utf8.decode s 0=if 128≤gl s r (2-1) then (gl s r (2-1),2) else (0xFFFD,1):=by
   rw[tm];simp only[Utf8.decode,ep,hb,e1,e2,hc 1 (by omega) (by omega),Utf8.runeError];simp
  have afQ:gl s r (2-1)<2048:=hlt;refine⟨λj8=>?_,λhg=>?_⟩
  ·rw[kG,ag (by omega)]
  ·rw[kG,ak (by omega)]
 ·have e1:¬ 224+r<128:=by omega
  have e2:((224+r)/32==6)=false:=by rw[l3];omega
  have e3:((224+r)/16==14)=true:=by rw[beq_iff_eq];omega
  have tm:gl s r (3-1)=(224+r)%16*4096+(s.get! 1).toNat%64*64+(s.get! 2).toNat%64:=by
   show (r*64+(s.get! 1).toNat%64)*64+(s.get! 2).toNat%64=_;omega
  have kG:Utf8.decode s 0=if 2048≤gl s r (3-1)∧Utf8.valid (gl s r (3-1))=true then (gl s r (3-1),3) else (0xFFFD,1):=by
   rw[tm];simp only[Utf8.decode,ep,hb,e1,e2,e3,hc 1 (by omega) (by omega),hc 2 (by omega) (by omega),Utf8.runeError];simp
  have hv:Utf8.valid (gl s r (3-1))=true↔(gl s r (3-1)<55296∨(57344≤gl s r (3-1)∧gl s r (3-1)≤1114111)):=by
   simp only[Utf8.valid,Bool.or_eq_true,fL,qs];omega
  refine⟨λj8=>?_,λhg=>?_⟩
  ·rw[kG,ag (by rw[hv];omega)]
  ·rw[kG,ak (by rw[hv];omega)]
 ·have e1:¬ 240+r<128:=by omega
  have e2:((240+r)/32==6)=false:=by rw[l3];omega
  have e3:((240+r)/16==14)=false:=by rw[l3];omega
  have jr:((240+r)/8==30)=true:=by rw[beq_iff_eq];omega
  have tm:gl s r (4-1)=(240+r)%8*262144+(s.get! 1).toNat%64*4096+(s.get! 2).toNat%64*64+(s.get! 3).toNat%64:=by
   show ((r*64+(s.get! 1).toNat%64)*64+(s.get! 2).toNat%64)*64+(s.get! 3).toNat%64=_;omega
  have kG:Utf8.decode s 0=if 65536≤gl s r (4-1)∧Utf8.valid (gl s r (4-1))=true then (gl s r (4-1),4) else (0xFFFD,1):=by
   rw[tm];simp only[Utf8.decode,ep,hb,e1,e2,e3,jr,hc 1 (by omega) (by omega),hc 2 (by omega) (by omega),hc 3 (by omega) (by omega),Utf8.runeError];simp
  have hv:Utf8.valid (gl s r (4-1))=true↔(gl s r (4-1)<55296∨(57344≤gl s r (4-1)∧gl s r (4-1)≤1114111)):=by
   simp only[Utf8.valid,Bool.or_eq_true,fL,qs];omega
  refine⟨λj8=>?_,λhg=>?_⟩
  ·rw[kG,ag (by rw[hv];omega)]
  ·rw[kG,ak (by rw[hv];omega)]
end
def Bf (x:Nat×Nat):Bool:=if x.1≠65533 then true else decide (x.2=3)
theorem XE (s:ByteArray)(i:Nat):Bf (Utf8.decode s i)=mI (Utf8.decode s i):=by
 rcases J3 s i with h | h
 ·unfold Bf mI;by_cases h1:(Utf8.decode s i).1=65533
  ·rw[h1]at h;have h2:(Utf8.decode s i).2=3:=by rw[← h];rfl
   rw[ag (λh3=>h3 h1),h2];have:Utf8.decode s i≠(65533,1):=λe=>by rw[e]at h2;cases h2
   simp[this]
  ·rw[ak h1];have:Utf8.decode s i≠(65533,1):=λe=>h1 (by rw[e]);simp[this]
 ·rw[h];rfl
def wR (c:Int):Nat:=[0,2,2,3,3,3,3,3,3,1,2,2,2,2,2,1].getD c.toNat 0
def Bg (o:fZ)(k:Nat):Int:=if k=0 then o.a else if k=1 then o.b else o.c
def kf (n:Int)(o:fZ)(k:Nat):Int:=if wR o.code≤k then 0 else if o.code=9∨(o.code=10∧k=1) then n else 31
def rT (n:Int)(o:fZ)(k:Nat):Prop:=(k<wR o.code∧o.code=1∧k=1)∨(0≤Bg o k∧Bg o k≤kf n o k)
theorem yR {n:Int}{o:fZ}:e9 n o↔(0≤o.code∧o.code≤15)∧rT n o 0∧rT n o 1∧rT n o 2:=by
 obtain⟨code,a,b,c⟩:=o;simp only[e9,rT,Bg,kf,e8];by_cases h:0≤code∧code≤15
 ·have h2:∃ m:Nat,code=m∧m≤15:=⟨code.toNat,by omega,by omega⟩;obtain⟨m,rfl,hm⟩:=h2;have:m=0∨m=1∨m=2∨m=3∨m=4∨m=5∨m=6∨m=7∨m=8∨m=9∨m=10∨m=11∨m=12∨m=13∨m=14∨m=15:=by omega
  rcases this with rfl | rfl | rfl | rfl | rfl | rfl | rfl | rfl | rfl | rfl | rfl | rfl | rfl | rfl | rfl | rfl <;> simp[wR] <;> omega
 ·constructor
  ·intro h3;omega
  ·intro h3;exact absurd h3.1 h
end
end Go.Proofs.YteoldcfapaiobaaGreat
