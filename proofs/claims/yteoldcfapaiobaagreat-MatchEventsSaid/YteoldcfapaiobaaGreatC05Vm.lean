/- The walks of packages word and vm, over whatever memory keeps the cells. -/
import Derived.Test.YteoldcfapaiobaaGreatC04Job
import Derived.Test.YteoldcfapaiobaaGreatC01Row
import Derived.Test.YteoldcfapaiobaaGreatC03Snap2
namespace Go.Proofs.YteoldcfapaiobaaGreat
open Tryz
open List (mem_cons_self getElem?_append_right mem_range eraseIdx_set_eq append_nil getElem_mem set_set range_succ countP_congr)
open Go.RowKit
set_option linter.unusedVariables false
set_option linter.unusedSimpArgs false
set_option maxRecDepth 10000
set_option synthInstance.maxSize 4000
set_option synthInstance.maxHeartbeats 400000
section
section
variable {W w:World}{L:List SP}
theorem IX {x:Int}(I:U W w L)(hx:dq x):Calls prog 229 #[.int .i32 x,.int .i64 32] w λe V=>e=.returned (.int .i64 (kh x))∧U W V L:=by
 have h1:=Int.tmod_lt_of_pos x (b:=32) (by decide);have h2:=Int.lt_tmod_of_pos x (b:=32) (by decide);have hm:(kh x:Int)=x%32:=by
  have h1:=Int.emod_nonneg x (show (32:Int)≠0 by decide);show (((x%32).toNat:Nat):Int)=_;omega
 have ht:x.tmod 32=if 0≤x then x%32 else -((-x)%32):=by
  split
  ·exact Int.tmod_eq_emod_of_nonneg (by omega)
  ·rw[← Int.neg_neg (x.tmod 32),← Int.neg_tmod,Int.tmod_eq_emod_of_nonneg (by omega)]
 simp only[dq]at hx;refine EN func229 ntmps229 rfl rfl λa E=>?_;refine RN 6 E I λa E=>?_;replace E:=E.aN 7;refine SX 3 E I (by rw[gr (by omega) (by omega)]) λa E=>?_;refine IF 7 E I (λao a E=>?_) λao a E=>?_
 ·
  refine RN 4 E I λa E=>?_;rw[show x.tmod 32+32=(kh x:Int) from by rw[hm,ht];split <;> omega]at E;refine RT 3 E I ?_;exact⟨rfl,I⟩
 refine RT 3 E I ?_;exact⟨by rw[hm,show x.tmod 32=x%32 from by rw[ht] at *;split at*<;> omega],I⟩
theorem Vt {x y:Int}(I:U W w L):Calls prog 244 #[.int .i32 x,.int .i32 y] w λe V=>e=.returned (.int .i32 (hV (x+y)))∧U W V L:=by
 refine EN func244 ntmps244 rfl rfl λa E=>?_;refine RT 7 E I ?_;exact⟨rfl,I⟩
theorem Vu {x y:Int}(I:U W w L):Calls prog 245 #[.int .i32 x,.int .i32 y] w λe V=>e=.returned (.int .i32 (hV (x-y)))∧U W V L:=by
 refine EN func245 ntmps245 rfl rfl λa E=>?_;refine RT 7 E I ?_;exact⟨rfl,I⟩
theorem Vv {x y:Int}(I:U W w L):Calls prog 246 #[.int .i32 x,.int .i32 y] w λe V=>e=.returned (.int .i32 (hV (x*y)))∧U W V L:=by
 refine EN func246 ntmps246 rfl rfl λa E=>?_;refine RT 7 E I ?_;exact⟨rfl,I⟩
theorem Vw {x y:Int}(I:U W w L):Calls prog 247 #[.int .i32 x,.int .i32 y] w λe V=>e=.returned (.int .i32 (if y=0 then 0 else hV (x.tdiv y)))∧U W V L:=by
 refine EN func247 ntmps247 rfl rfl λa E=>?_;refine IF 8 E I (λaj a E=>?_) λaj a E=>?_
 ·
  refine RT 2 E I ?_;exact⟨by rw[ak (by omega)],I⟩
 refine IF 3 E I (λao a E=>?_) λao a E=>?_
 ·
  refine RT 4 E I ?_;exact⟨by rw[ae (by omega),show y = -1 from by omega,Int.tdiv_neg,Int.tdiv_one,show (0:Int)-x = -x from by omega];rfl,I⟩
 refine RN 3 E I λa E=>?_;refine SS E (Hw E (by omega)) λa E=>?_;refine RT 1 E I ?_;exact⟨by rw[ae (by omega)];rfl,I⟩
theorem IY {z:Bool}(I:U W w L):Calls prog 248 #[.bool z] w λe V=>e=.returned (.int .i32 (if z=true then 1 else 0))∧U W V L:=by
 refine EN func248 ntmps248 rfl rfl λa E=>?_;refine IF 5 E I (λaj a E=>?_) λaj a E=>?_
 ·
  refine RT 2 E I ?_;exact⟨by rw[ak aj],I⟩
 refine RT 2 E I ?_;exact⟨by rw[ae (by rw[aj];decide)],I⟩
theorem Vx {k x y:Int}(I:U W w L):Calls prog 242 #[.int .i64 k,.int .i32 x,.int .i32 y] w λe V=>e=.returned (.int .i32 (iN k x y))∧U W V L:=by
 refine EN func242 ntmps242 rfl rfl λa E=>?_;refine IF 8 E I (λaj a E=>?_) λaj a E=>?_
 ·
  refine CL 3 E I (Vt I) λa w E I=>?_;refine RT 1 E I ?_;exact⟨by simp[iN,aj],I⟩
 refine IF 3 E I (λao a E=>?_) λao a E=>?_
 ·
  refine CL 3 E I (Vu I) λa w E I=>?_;refine RT 1 E I ?_;exact⟨by simp[iN,ao],I⟩
 refine IF 3 E I (λay a E=>?_) λay a E=>?_
 ·
  refine CL 3 E I (Vv I) λa w E I=>?_;refine RT 1 E I ?_;exact⟨by simp[iN,ay],I⟩
 refine IF 3 E I (λbh a E=>?_) λbh a E=>?_
 ·
  refine CL 3 E I (Vw I) λa w E I=>?_;refine RT 1 E I ?_;exact⟨by simp[iN,bh],I⟩
 refine IF 3 E I (λbR a E=>?_) λbR a E=>?_
 ·
  refine CL 4 E I (IY I) λa w E I=>?_;refine RT 1 E I ?_;exact⟨by simp[iN,bR],I⟩
 refine CL 4 E I (IY I) λa w E I=>?_;refine RT 1 E I ?_;exact⟨by simp[iN,aj,ao,ay,bh,bR],I⟩
theorem Vy {s:ByteArray}{n:Int}(I:U W w L)(aE:s.size≤1099511627776)(hn:dq n):Calls prog 241 #[.string s,.int .i64 n] w λe V=>e=.returned (.int .i32 (mN s n))∧U W V L:=by
 simp only[dq]at hn;refine EN func241 ntmps241 rfl rfl λa E=>?_;refine RN 5 E I λa E=>?_;refine Cc E rfl I underlying9 rfl λb8 a w E I ho=>?_;clear ho;refine RN 0 E I λa E=>?_;refine aR (λμ a w=>∃ (pos:Nat) (dn:List (Nat×Nat)),(μ=s.size-pos∧pos≤s.size∧eb s 0=dn++eb s pos∧dn.length≤pos∧(n<0∨(dn.length:Int)≤n))∧Fr a 17 [(0,.string s),(1,.int .i64 (n-dn.length)),(8,pt b8)]∧U W w (ku b8 (.stringIter s pos)::L)) (s.size) (⟨0,[],⟨by simp,by simp,by simp,by simp,by simp;omega⟩,by rw[show n-(([]:List (Nat×Nat)).length:Int)=n from by simp];exact E.ab [0,1,8],I⟩) ?_;clear E I;rintro μ a w ⟨pos,dn,⟨rfl,pV,c8,ma,qS⟩,E,I⟩;refine RN 1 E I λa E=>?_;refine Ce E rfl I rfl λa w E I=>?_;refine RN 0 E I λa E=>?_;refine SS E (nN E (Ca s pos)) λa E=>?_;refine IF 1 E I (λaj a E=>?_) λaj a E=>?_
 ·
  have mQ:=qN aj;have jd:=CP pV;have o4:dZ s pos=pos+(Utf8.decode s pos).2:=by rw[dZ,ak aj]
  have k7:=tH s pos;refine RN 1 E I λa E=>?_;refine SS E (nN E (Cb aj)) λa E=>?_;refine IF 5 E I (λao a E=>?_) λao a E=>?_
  ·
   refine RT 3 E I ?_;refine⟨?_,I.sub⟩;have o6:n.toNat=dn.length:=by omega
   rw[mN,ak (by omega),c8,mQ,o6,getElem?_append_right (bf _),Nat.sub_self];rfl
  refine RN 3 E I λa E=>?_;exact⟨s.size-dZ s pos,by omega,dZ s pos,dn++[Utf8.decode s pos],⟨rfl,jd,by rw[c8,mQ,dv];rfl,by rw[aL];simp;omega,by rw[aL];simp;omega⟩,by rw[show n-((dn++[Utf8.decode s pos]).length:Int)=n-(dn.length:Int)-1 from by rw[aL];simp;omega];exact E.ab [0,1,8],I.sub⟩
 refine RT 2 E I ?_;refine⟨?_,I.sub⟩;have gA:=qO (s:=s) (pos:=pos) aj;rw[gA,append_nil]at c8;rw[mN];split
 ·rw[c8,iH (by omega)];rfl
 ·rfl
structure xx (W:World)(t:TypeId)(ad:Addr)(tQ fs:FuncId)(J:(Nat→Int)→Bool→SP):Prop where
 n3 : oT prog t "Get" tQ
 n4:g4 prog tQ=true
 zE : oT prog t "Set" fs
 vi:g4 prog fs=true
 ok:∀ (w:World) (L:List SP) (g:Nat→Int) (bad:Bool),U W w (J g bad::L)→dM g
 get:∀ (w:World) (L:List SP) (g:Nat→Int) (bad:Bool) (c:Nat),c<32→U W w (J g bad::L)→Calls prog tQ (List.toArray [.pointer (some ad),.int .i64 c]) w λe V=>e=.returned (.int .i32 (g c))∧U W V (J g bad::L)
 set:∀ (w:World) (L:List SP) (g:Nat→Int) (bad:Bool) (c:Nat) (v:Int),c<32→dq v→U W w (J g bad::L)→Calls prog fs (List.toArray [.pointer (some ad),.int .i64 c,.int .i32 v]) w λe V =>
  ∃ (g':Nat→Int) (fm:Bool),e=.returned (.tuple #[])∧((fm=true∧g'=g)∨(fm=false∧bad=false∧g'=cd g c v))∧U W V (J g' fm::L)
abbrev ha (p:Pr)(aq:Option Addr)(cO:Nat)(t:TypeId)(ad:Addr)(fr:Int)(adP:Option Addr)(Vz cP:Nat)(aT:Nat):List Value :=
 [.string p.title,.slice aq p.ops.length cO,.iface t (.pointer (some ad)),.int .i64 fr,.slice adP Vz cP,.int .i64 aT]
variable {t:TypeId}{ad:Addr}{tQ fs gi aT cO cP:Nat}{J:(Nat→Int)→Bool→SP}{p:Pr}{aq adP:Option Addr}{fr:Int}{b:List UInt8}{g:Nat→Int}{bad:Bool}{o:gy}
theorem VA {x:Int}(I:U W w (aa gi 336 (ha p aq cO t ad fr adP b.length cP aT)::L))(hx:dq x)(hb:b.length≤1099511627776)(hp:∀ V,U W V L→a6 V adP b.length b) :
   Calls prog 240 #[pt gi,.int .i32 x] w λe V=>e=.returned (.int .i32 (l8 b x))∧U W V (aa gi 336 (ha p aq cO t ad fr adP b.length cP aT)::L):=by
 simp only[dq]at hx;refine EN func240 ntmps240 rfl rfl λa E=>?_;refine BY 7 E I (λbA a E=>?_) λbA a E=>?_
 ·
  refine RT 12 E I ?_;exact⟨by rw[l8,ae (by omega)],I⟩
 refine SX 1 E I (by rw[gr (by omega) (by omega)]) λa E=>?_;refine IF 7 E I (λaj a E=>?_) λaj a E=>?_
 ·
  refine RT 2 E I ?_;exact⟨by rw[l8,ae (by omega)],I⟩
 refine RN 1 E I λa E=>?_;obtain⟨k,hk⟩:∃ k:Nat,x=(k:Int):=⟨x.toNat,by omega⟩;obtain⟨_,_,a1⟩:=hp _ I.tail;have xy:k<b.length:=by omega
 obtain⟨bp,op,gT,de⟩:∃ bp op,adP=some ⟨bp,op,none⟩∧Rd w bp op (bc b):=by
  cases hh:adP with
  | none =>
   have:=(hp _ I.tail).2.1 hh;omega
  | some a =>
   obtain⟨b1,o1,rfl,h1⟩:=a1 a hh (by omega);exact⟨b1,o1,rfl,h1⟩
 rw[hk]at E;refine RN 4 E I λa E=>?_;rw[gT]at E;refine RN 2 E I λa E=>?_;refine SS E (ag E (de k (.int .u8 b[k].toNat) (by simp[bc,xy]))) λa E=>?_;refine SX 0 E I (by have:=b[k].toNat_lt;exact hW (by omega) (by omega)) λa E=>?_;refine RT 1 E I ?_;refine⟨?_,I.sub⟩;rw[l8,ak (by omega),hk,Int.toNat_natCast,bl,aI xy];rfl
theorem nv {c:Nat}{v:Int}(h:dM g)(hv:dq v):dM (cd g c v):=λd hd=>by
 simp only[cd];split
 ·exact hv
 ·exact h d hd
def p9 (x:Int)(m:Nat):Prop:=∃ n:Nat,x=(n:Int)∧n≤m
def lC (x:Int)(m:Nat):Prop:=∃ n:Nat,x=(n:Int)∧n<m
theorem p9.of {x:Int}{m:Nat}(h:0≤x∧x≤m):p9 x m:=⟨x.toNat,by omega,by omega⟩
theorem lC.of {x:Int}{m:Nat}(h:0≤x∧x<m):lC x m:=⟨x.toNat,by omega,by omega⟩
theorem VB {M:xx W t ad tQ fs J}{m:Nat}(I:U W w (aa gi 336 (ha p aq cO t ad fr adP b.length cP aT)::J g bad::L))(ho:eV m o)(h0:o.code≠0)(h9:o.code≠9)(fF:o.code≠10)(IQ:o.code≠13)
   (aE:p.title.size≤1000000000) (hb:b.length≤1099511627776) (hp:∀ V,U W V L→a6 V adP b.length b) :
   Calls prog 230 #[pt gi,.agg (dL o).toArray] w λe V=>e=.returned (.int .i32 (jt p fr b g o))∧U W V (aa gi 336 (ha p aq cO t ad fr adP b.length cP aT)::J g bad::L):=by
 have hg:dM g:=M.ok _ _ g bad I.tail;have qa:=ho;simp only[eV,eU]at qa;have oa:o.code≠1→o.code≠15→lC o.b 32:=λh1 h2=>lC.of (by omega);have mh:3≤o.code∧o.code≤8→lC o.c 32:=λh=>lC.of (by omega);have qT:o.code≠1→o.code≠2→o.code≠11→o.code≠12→o.code≠14→o.code≠15→3≤o.code∧o.code≤8:=by omega
 clear qa;refine EN func230 ntmps230 rfl rfl λa E=>?_;refine BX 1 E I λb3 a w E I=>?_;change U W w (aa b3 114 (dL o)::_) at I;refine IF 8 E I (λaj a E=>?_) λaj a E=>?_
 ·
  refine RN 3 E I λa E=>?_;refine SS E (gg E underlying3 underlying21) λa E=>?_;refine RT 1 E I ?_;exact⟨by simp[jt,aj];rfl,I.sub⟩
 refine IF 3 E I (λao a E=>?_) λao a E=>?_
 ·
  refine RN 1 E I λa E=>?_;obtain⟨bC,dX,ob⟩:=oa (by omega) (by omega);refine bQ 0 [5] [0,1,2,4,3003,1005,1006,7] E I λa w E I hH hC=>?_;refine RH 6 E I hH hC λa E=>?_;rw[dX]at E;refine js E rfl M.n3 M.n4 rfl (M.get _ _ g bad bC ob (I.pick (J g bad))) (by rfl) ?_;clear E I;rintro e w ⟨rfl,I⟩;refine⟨_,rfl,λa E=>?_⟩;refine RN 1 E I λa E=>?_;refine RT 0 E I ?_;exact⟨by simp[jt,ao,dX],I.sub⟩
 refine IF 3 E I (λay a E=>?_) λay a E=>?_
 ·
  refine RN 1 E I λa E=>?_;obtain⟨bC,dX,ob⟩:=oa (by omega) (by omega);refine bQ 0 [6] [0,1,2,3,5,3004,1006,1007,1008,9] E I λa w E I hH hC=>?_;refine RH 7 E I hH hC λa E=>?_;rw[dX]at E;refine js E rfl M.n3 M.n4 rfl (M.get _ _ g bad bC ob (I.pick (J g bad))) (by rfl) ?_;clear E I;rintro e w ⟨rfl,I⟩;refine⟨_,rfl,λa E=>?_⟩;refine CL 0 E I (VA (I.jD gi) (hg bC ob) hb (λV h=>hp V h.sub)) λa w E I=>?_;refine RN 1 E I λa E=>?_;refine RT 0 E I ?_;exact⟨by simp[jt,ay,dX],I.sub⟩
 refine IF 3 E I (λbh a E=>?_) λbh a E=>?_
 ·
  refine aZ 1 (λw0 V=>Rd V gi 0 (ha p aq cO t ad fr adP b.length cP aT)∧Rd V b3 0 (dL o)) [7,9,10,11] [0,1,2,4,5,6,8,3003,12,13,3007,1009,1010,1011,1014,15] E I λa w E I hH=>?_;obtain⟨bC,dX,ob⟩:=oa (by omega) (by omega);have xz:=xk (g bC);have ju:Rd w gi 0 (ha p aq cO t ad fr adP b.length cP aT):=I.ai;have gA:Rd w b3 0 (dL o):=I.ai;have hC:=And.intro ju gA;refine RH 7 E I hH hC λa E=>?_;refine QH E (λw hc=>ag E (hc.1 2 _ rfl)) hC λa E=>?_;refine RH 2 E I hH hC λa E=>?_;refine QH E (λw hc=>ag E (hc.1 2 _ rfl)) hC λa E=>?_;refine RH 0 E I hH hC λa E=>?_;refine SS E (ag E (hC.2 2 _ rfl)) λa E=>?_;rw[dX]at E;refine RH 0 E I hH hC λa E=>?_;refine js E rfl M.n3 M.n4 rfl (M.get _ _ g bad bC ob (I.pick (J g bad))) (by rfl) ?_;clear E I;rintro e w ⟨rfl,I⟩;refine⟨_,rfl,λa E=>?_⟩;replace hC:=hH.at w (And.intro I.ai I.ai);refine RH 0 E I hH hC λa E=>?_;refine CL 0 E I (IX I (hg bC ob)) λa w E I=>?_;replace hC:=hH.at w (And.intro I.ai I.ai);refine RH 0 E I hH hC λa E=>?_;refine js E rfl M.n3 M.n4 rfl (M.get _ _ g bad (kh (g bC)) xz (I.pick (J g bad))) (by rfl) ?_;clear E I;rintro e w ⟨rfl,I⟩;refine⟨_,rfl,λa E=>?_⟩;refine RN 1 E I λa E=>?_;refine RT 0 E I ?_;exact⟨by simp[jt,bh,dX],I.sub⟩
 refine IF 3 E I (λbR a E=>?_) λbR a E=>?_
 ·
  refine aZ 1 (λw0 V=>Rd V gi 0 (ha p aq cO t ad fr adP b.length cP aT)∧Rd V b3 0 (dL o)) [8,10,11,12] [0,1,2,3,5,6,7,9,3004,3008,1010,1011,1012,1013,14] E I λa w E I hH=>?_;obtain⟨bC,dX,ob⟩:=oa (by omega) (by omega);have IZ:=hg bC ob;have VC:=IZ;simp only[dq]at VC;have ju:Rd w gi 0 (ha p aq cO t ad fr adP b.length cP aT):=I.ai;have gA:Rd w b3 0 (dL o):=I.ai;have hC:=And.intro ju gA;refine RH 8 E I hH hC λa E=>?_;refine QH E (λw hc=>ag E (hc.1 0 _ rfl)) hC λa E=>?_;refine QH E (λw hc=>ag E (hc.1 2 _ rfl)) hC λa E=>?_;refine RH 0 E I hH hC λa E=>?_;refine SS E (ag E (hC.2 2 _ rfl)) λa E=>?_;rw[dX]at E;refine RH 0 E I hH hC λa E=>?_;refine js E rfl M.n3 M.n4 rfl (M.get _ _ g bad bC ob (I.pick (J g bad))) (by rfl) ?_;clear E I;rintro e w ⟨rfl,I⟩;refine⟨_,rfl,λa E=>?_⟩;replace hC:=hH.at w (And.intro I.ai I.ai);refine RH 0 E I hH hC λa E=>?_;refine SX 0 E I (by rw[gr (by omega) (by omega)]) λa E=>?_;refine RH 0 E I hH hC λa E=>?_;refine CL 0 E I (Vy I (by omega) IZ) λa w E I=>?_;refine RN 1 E I λa E=>?_;refine RT 0 E I ?_;exact⟨by simp[jt,bR,dX],I.sub⟩
 refine IF 3 E I (λeE a E=>?_) λeE a E=>?_
 ·
  refine RN 5 E I λa E=>?_;refine SS E (gg E underlying3 underlying100) λa E=>?_;refine RN 0 E I λa E=>?_;refine SS E (gg E underlying100 underlying21) λa E=>?_;refine RT 1 E I ?_;refine⟨?_,I.sub⟩;have e:IntKind.i32.wrap (IntKind.u32.wrap fr)=hV fr:=by
   simp only[hV,IntKind.wrap,IntKind.signed,IntKind.bits];have:fr%4294967296%4294967296=fr%4294967296:=Int.emod_emod_of_dvd _ (Int.dvd_refl _);simp[this]
  simp[jt,eE,e]
 refine RN 1 E I λa E=>?_;obtain⟨bC,dX,ob⟩:=oa (by omega) (by omega);obtain⟨tu,o7,VD⟩:=mh (qT aj ao ay bh bR eE);refine bQ 0 [5] [0,1,2,4,3003,1005,1006,7] E I λa w E I hH hC=>?_;refine RH 6 E I hH hC λa E=>?_;rw[dX]at E;refine js E rfl M.n3 M.n4 rfl (M.get _ _ g bad bC ob (I.pick (J g bad))) (by rfl) ?_;clear E I;rintro e w ⟨rfl,I⟩;refine⟨_,rfl,λa E=>?_⟩;refine RN 1 E I λa E=>?_;refine aZ 1 (λw0 V=>Rd V gi 0 (ha p aq cO t ad fr adP b.length cP aT)∧Rd V b3 0 (dL o)) [6,8,9] [0,2,3,4,5,7,3001,3006,1008,1009,1010,11] E I λa w E I hH=>?_;have ju:Rd w gi 0 (ha p aq cO t ad fr adP b.length cP aT):=I.ai;have gA:Rd w b3 0 (dL o):=I.ai;have hC:=And.intro ju gA;refine RH 6 E I hH hC λa E=>?_;refine QH E (λw hc=>ag E (hc.2 0 _ rfl)) hC λa E=>?_;refine QH E (λw hc=>ag E (hc.1 2 _ rfl)) hC λa E=>?_;refine RH 0 E I hH hC λa E=>?_;refine SS E (ag E (hC.2 3 _ rfl)) λa E=>?_;rw[o7]at E;refine RH 0 E I hH hC λa E=>?_;refine js E rfl M.n3 M.n4 rfl (M.get _ _ g bad tu VD (I.pick (J g bad))) (by rfl) ?_;clear E I;rintro e w ⟨rfl,I⟩;refine⟨_,rfl,λa E=>?_⟩;replace hC:=hH.at w (And.intro I.ai I.ai);refine RH 0 E I hH hC λa E=>?_;refine CL 0 E I (Vx I) λa w E I=>?_;refine RN 1 E I λa E=>?_;refine RT 0 E I ?_;exact⟨by simp[jt,aj,ao,ay,bh,bR,eE,dX,o7],I.sub⟩
theorem I0 (s:ByteArray)(n:Int):dq (mN s n):=by
 have hb:∀ pos,∀ x∈eb s pos,x.1<1114112:=by
  have h:∀ k pos,s.size-pos≤k→∀ x∈eb s pos,x.1<1114112:=by
   intro k
   induction k with
   | zero=>intro pos h x hx;rw[qO (by omega)]at hx;simp at hx
   | succ k ih =>
    intro pos h x hx;by_cases hp:pos<s.size
    ·rw[qN hp]at hx;rcases List.mem_cons.1 hx with rfl | hx
     ·exact Ut s pos
     ·have:=(tH s pos).1;exact ih (dZ s pos) (by rw[dZ,ak hp];omega) x hx
    ·rw[qO hp]at hx;simp at hx
  exact λpos=>h _ pos (bf _)
 simp only[mN,dq];split
 ·cases hx:(eb s 0)[n.toNat]? with
  | none=>simp
  | some x =>
   have:=hb 0 x (bK hx);simp only[Option.map_some,Option.getD_some];omega
 ·omega
theorem I1 (k x y:Int):dq (iN k x y):=by
 unfold iN;have h1:dq 1:=by simp[dq]
 have h0:dq 0:=by simp[dq]
 repeat' split
 all_goals first | exact xl _ | exact h1 | exact h0
theorem I2 (b:List UInt8)(x:Int):dq (l8 b x):=by
 simp only[l8,dq];split
 ·have:=(b.getD x.toNat 0).toNat_lt;omega
 ·omega
theorem I3 {m:Int}(hg:dM g)(ho:eV m o)(h9:o.code≠9)(fF:o.code≠10):dq (jt p fr b g o):=by
 simp only[eV,eU]at ho;have hb:o.code≠1→o.code≠15→o.code≠0→o.b.toNat<32:=λh1 h2 h3=>by omega
 have h0:o.code=0→o.b.toNat<32:=λh=>by omega
 unfold jt;split
 ·exact xl _
 ·split
  ·exact hg _ (hb (by omega) (by omega) (by omega))
  ·split
   ·exact I2 _ _
   ·split
    ·exact hg _ (xk _)
    ·split
     ·exact I0 _ _
     ·split
      ·exact xl _
      ·exact I1 _ _ _
set_option maxHeartbeats 4000000 in
theorem VE {M:xx W t ad tQ fs J}(I:U W w (aa gi 336 (ha p aq cO t ad fr adP b.length cP aT)::J g bad::aA W p aq cO::L))(a1:∀ o∈p.ops,eV p.ops.length o)(eX:p.ops[aT]?=some o)
   (aE:p.title.size≤1000000000) (dW:p.ops.length≤1000000000) (hb:b.length≤1099511627776) (hp:∀ V,U W V L→a6 V adP b.length b) :
   Calls prog 203 #[pt gi] w λe V=>∃ (g':Nat→Int) (xA:Nat) (fm r:Bool),e=.returned (.bool r)∧(fm=false→bad=false∧ej p fr b g aT o=(g',xA,r))∧xA≤p.ops.length ∧
    U W V (aa gi 336 (ha p aq cO t ad fr adP b.length cP xA)::J g' fm::aA W p aq cO::L):=by
 have hg:dM g:=M.ok _ _ g bad I.tail;have ho:=a1 o (bK eX);have aen:=(a2.1 eX).1;have qa:=ho;simp only[eV,eU]at qa;have Dg:o.code=9→p9 o.a p.ops.length:=λh=>p9.of (by omega);have jT:o.code≠9→o.code≠0→lC o.a 32:=λh h2=>lC.of (by omega);have Dh:o.code=10→p9 o.b p.ops.length:=λh=>p9.of (by omega);have VF:o.code=13→lC o.b 32:=λh=>lC.of (by omega);clear qa;refine EN func203 ntmps203 rfl rfl λa E=>?_;refine bQ 3 [8,11] [0,1,2,3,5,6,7,3004,3008,9,3010,1011,1012] E I λa w E I hH hC=>?_;obtain⟨kz,oo,gT,gA⟩:=I.qQ aq (by omega);rw[gT]at I;replace hH:=Hd.gf I;refine RH 10 E I hH hC λa E=>?_;refine QH E (λw hc=>bT E underlying114 rfl Ty.t114 (hc.rd (vv gA eX))) hC λa E=>?_;refine RH 0 E I hH hC λa E=>?_;refine eR E rfl I Ty.t114 rfl λb3 a w E I ho=>?_;replace hC:=hC.trans ho;clear ho;refine RH 0 E I hH hC λa E=>?_;refine SA 0 E I λa w E I=>?_;refine RN 0 E I λa E=>?_;rw[← gT]at I;replace E:=E.ab [0,3];refine ST 8 E I (λa w E I=>?_) (hlt:=(by simp[ha]));rw[show ((aT:Int)+1)=((aT+1:Nat):Int) from rfl]at I;change U W w (aa gi 336 (ha p aq cO t ad fr adP b.length cP (aT+1))::_) at I;refine IF 7 E I (λaj a E=>?_) λaj a E=>?_
 ·
  refine RT 2 E I ?_;exact⟨g,aT+1,bad,false,rfl,λh=>⟨h,by rw[ej,ak aj]⟩,by omega,I.sub⟩
 refine IF 3 E I (λao a E=>?_) λao a E=>?_
 ·
  obtain⟨cz,dH,jU⟩:=Dg ao;refine ST 5 E I (λa w E I=>?_) (hlt:=(by simp[ha]));rw[dH]at I;change U W w (aa gi 336 (ha p aq cO t ad fr adP b.length cP cz)::_) at I;refine RT 2 E I ?_;exact⟨g,cz,bad,true,rfl,λh=>⟨h,by rw[ej,ae aj,ak ao,dH];rfl⟩,by omega,I.sub⟩
 refine IF 3 E I (λay a E=>?_) λay a E=>?_
 ·
  refine RN 1 E I λa E=>?_;obtain⟨cz,dH,jU⟩:=jT ao aj;obtain⟨bC,dX,iy⟩:=Dh ay;refine bQ 0 [5] [0,1,2,4,3003,1005,1006,7] E I λa w E I hH hC=>?_;refine RH 6 E I hH hC λa E=>?_;rw[dH]at E;refine js E rfl M.n3 M.n4 rfl (M.get _ _ g bad cz jU (I.pick (J g bad))) (by rfl) ?_;clear E I;rintro e w ⟨rfl,I⟩;refine⟨_,rfl,λa E=>?_⟩;refine RN 1 E I λa E=>?_;refine IF 0 E I (λbh a E=>?_) λbh a E=>?_
  ·
   refine ST 5 E I (λa w E I=>?_) (hlt:=(by simp[ha]));rw[dX]at I;change U W w (aa gi 336 (ha p aq cO t ad fr adP b.length cP bC)::_) at I;refine RT 2 E I ?_;exact⟨g,bC,bad,true,rfl,λh=>⟨h,by rw[ej,ae aj,ae ao,ak ay,dH,dX,Int.toNat_natCast,ak bh];rfl⟩,by omega,I.sub⟩
  refine RT 2 E I ?_;exact⟨g,aT+1,bad,true,rfl,λh=>⟨h,by rw[ej,ae aj,ae ao,ak ay,dH,Int.toNat_natCast,ae bh]⟩,by omega,I.sub⟩
 refine IF 3 E I (λbR a E=>?_) λbR a E=>?_
 ·
  refine RN 1 E I λa E=>?_;obtain⟨cz,dH,jU⟩:=jT ao aj;obtain⟨bC,dX,iy⟩:=VF bR;refine bQ 0 [5] [0,1,2,4,3003,1005,1006,1007,8] E I λa w E I hH hC=>?_;refine RH 6 E I hH hC λa E=>?_;rw[dH]at E;refine js E rfl M.n3 M.n4 rfl (M.get _ _ g bad cz jU (I.pick (J g bad))) (by rfl) ?_;clear E I;rintro e w ⟨rfl,I⟩;refine⟨_,rfl,λa E=>?_⟩;refine CL 0 E I (IX I (hg cz jU)) λa w E I=>?_;refine RN 1 E I λa E=>?_;refine aZ 0 (λw0 V=>Rd V gi 0 (ha p aq cO t ad fr adP b.length cP (aT+1))∧Rd V b3 0 (dL o)) [8,10,11] [0,1,2,4,5,6,7,9,3003,12,13,3008,1010,1011,1014] E I λa w E I hH=>?_;have ju:Rd w gi 0 (ha p aq cO t ad fr adP b.length cP (aT+1)):=I.ai;have jV:Rd w b3 0 (dL o):=I.ai;have hC:=And.intro ju jV;refine RH 8 E I hH hC λa E=>?_;refine QH E (λw hc=>ag E (hc.1 2 _ rfl)) hC λa E=>?_;refine RH 2 E I hH hC λa E=>?_;refine QH E (λw hc=>ag E (hc.1 2 _ rfl)) hC λa E=>?_;refine RH 0 E I hH hC λa E=>?_;refine SS E (ag E (hC.2 2 _ rfl)) λa E=>?_;rw[dX]at E;refine RH 0 E I hH hC λa E=>?_;refine js E rfl M.n3 M.n4 rfl (M.get _ _ g bad bC iy (I.pick (J g bad))) (by rfl) ?_;clear E I;rintro e w ⟨rfl,I⟩;refine⟨_,rfl,λa E=>?_⟩;replace hC:=hH.at w (And.intro I.ai I.ai);refine RH 0 E I hH hC λa E=>?_;refine js E rfl M.zE M.vi rfl (M.set _ _ g bad (kh (g cz)) (g bC) (xk _) (hg bC iy) (I.pick (J g bad))) (by rfl) ?_;clear E I;rintro e w ⟨g',fm,rfl,xq,I⟩;refine⟨_,rfl,λa E=>?_⟩;refine RT 2 E I ?_;refine⟨g',aT+1,fm,true,rfl,λh=>?_,by omega,I.sub⟩;obtain⟨_,h1,h2⟩:=xq.resolve_left (λh3=>by rw[h]at h3;cases h3.1);exact⟨h1,by rw[ej,ae aj,ae ao,ae ay,ak bR,dH,dX,Int.toNat_natCast,Int.toNat_natCast,h2]⟩
 refine aZ 0 (λw0 V=>Rd V gi 0 (ha p aq cO t ad fr adP b.length cP (aT+1))∧Rd V b3 0 (dL o)) [5,7,8] [0,1,2,4,6,3003,9,10,3005,1007,1008,1011] E I λa w E I hH=>?_;obtain⟨cz,dH,jU⟩:=jT ao aj;have ju:Rd w gi 0 (ha p aq cO t ad fr adP b.length cP (aT+1)):=I.ai;have jV:Rd w b3 0 (dL o):=I.ai;have hC:=And.intro ju jV;refine RH 5 E I hH hC λa E=>?_;refine QH E (λw hc=>ag E (hc.1 2 _ rfl)) hC λa E=>?_;refine RH 2 E I hH hC λa E=>?_;refine QH E (λw hc=>ag E (hc.2 1 _ rfl)) hC λa E=>?_;rw[dH]at E;refine RH 0 E I hH hC λa E=>?_;refine SS E (bT E underlying114 rfl Ty.t114 (hC.2)) λa E=>?_;refine RH 0 E I hH hC λa E=>?_;refine CL 0 E I (VB (M:=M) (L:=aa b3 114 (dL o)::aA W p aq cO::L) (I.sub (M:=aa gi 336 (ha p aq cO t ad fr adP b.length cP (aT+1))::J g bad::aa b3 114 (dL o)::aA W p aq cO::L)) ho aj ao ay bR aE hb (λV h=>hp V h.sub)) λa w E I=>?_;replace hC:=hH.at w (And.intro I.ai I.ai);refine RH 0 E I hH hC λa E=>?_;refine js E rfl M.zE M.vi rfl (M.set _ _ g bad cz (jt p fr b g o) jU (I3 hg ho ao ay) (I.pick (J g bad))) (by rfl) ?_;clear E I;rintro e w ⟨g',fm,rfl,xq,I⟩;refine⟨_,rfl,λa E=>?_⟩;refine RT 2 E I ?_;refine⟨g',aT+1,fm,true,rfl,λh=>?_,by omega,I.sub⟩;obtain⟨_,h1,h2⟩:=xq.resolve_left (λh3=>by rw[h]at h3;cases h3.1);exact⟨h1,by rw[ej,ae aj,ae ao,ae ay,ae bR,dH,Int.toNat_natCast,h2]⟩
theorem Di {n:Nat}(h:p.ops[aT]?=some o):p5 p fr b (n+1) g aT=if (ej p fr b g aT o).2.2 then p5 p fr b n (ej p fr b g aT o).1 (ej p fr b g aT o).2.1 else (ej p fr b g aT o).1:=by
 rw[p5];simp only[h]
theorem Dk {n:Nat}(h:p.ops.length≤aT):p5 p fr b n g aT=g:=by
 cases n with
 | zero=>rfl
 | succ n=>rw[p5];simp only[iH h]
set_option maxHeartbeats 4000000 in
theorem I4 {M:xx W t ad tQ fs J}(I:U W w (J g bad::aA W p aq cO::L))(a1:dg p)(aE:p.title.size≤1000000000)(hb:b.length≤1099511627776)(hp:∀ V,U W V L→a6 V adP b.length b) :
   Calls prog 174 #[.agg (bP p aq cO).toArray,.iface t (.pointer (some ad)),.int .i64 fr,.slice adP b.length cP] w λe V=>∃ (g':Nat→Int) (fm:Bool) (n:Int),e=.returned (.int .i64 n)∧(fm=false→bad=false∧g'=eW p fr b g) ∧
    U W V (J g' fm::aA W p aq cO::L):=by
 have dW:p.ops.length≤64:=a1.1.2.2.1;refine EN func174 ntmps174 rfl rfl λa E=>?_;refine BX 1 E I λb4 a w E I=>?_;change U W w (aa b4 45 (bP p aq cO)::_) at I;refine RN 6 E I λa E=>?_;replace E:=E.aN 13;refine bg 1 E I (Df (I.pick (aA W p aq cO)) aE (by omega)) λr a w E ⟨hr,I⟩=>?_;rw[hr.2 a1]at E;refine RN 1 E I λa E=>?_;rw[show (!true)=false from rfl]at E;refine RN 1 E I λa E=>?_;replace E:=E.aN 17;refine RN 3 E I λa E=>?_;change Fr a 42 ((18,.agg (List.toArray [.string p.title,.slice aq p.ops.length cO]))::_) at E;refine BX 4 E I λxB a w E I=>?_;change U W w (aa xB 336 (ha p aq cO t ad fr adP b.length cP 0)::_) at I;refine RN 4 E I λa E=>?_;refine aR (λμ a w=>∃ (n aT:Nat) (g':Nat→Int) (fm:Bool),(μ=200-n∧n≤200∧aT≤p.ops.length∧(fm=false→bad=false∧p5 p fr b (200-n) g' aT=eW p fr b g))∧Fr a 42 [(4,pt b4),(9,pt xB),(10,.int .i64 n)]∧U W w (aa xB 336 (ha p aq cO t ad fr adP b.length cP aT)::aa b4 45 (bP p aq cO)::J g' fm::aA W p aq cO::L)) (200) (⟨0,0,g,bad,⟨by simp,by simp,by simp,λh=>⟨h,rfl⟩⟩,E.ab [4,9,10],I.sub⟩) ?_;clear E I;rintro μ a w ⟨n,aT,g',fm,⟨rfl,hn,eX,oc⟩,E,I⟩;refine bQ 2 [8,9] [0,1,2,3,4,5,7,3006,1008,1009,10,11] E I λa w E I hH hC=>?_;refine RH 3 E I hH hC λa E=>?_;refine E.by (s:=26) (λbA E=>?_) (λbA E=>?_)
 ·
  refine RH 9 E I hH hC λa E=>?_;refine IF 0 E I (λao a E=>?_) λao a E=>?_
  ·
   obtain⟨o,ho⟩:∃ o,p.ops[aT]?=some o:=⟨_,aI (by omega)⟩;have aQ:=Di (p:=p) (fr:=fr) (b:=b) (g:=g') (n:=200-(n+1)) ho;rw[show 200-(n+1)+1=200-n from by omega]at aQ;refine jJ 6 E I (VE (M:=M) (L:=aa b4 45 (bP p aq cO)::L) (I.sub (M:=aa xB 336 (ha p aq cO t ad fr adP b.length cP aT)::J g' fm::aA W p aq cO::aa b4 45 (bP p aq cO)::L)) a1.2 ho aE (by omega) hb (λV h=>hp V h.tail)) ?_;clear E I;rintro e w ⟨mH,xA,zF,r2,rfl,fN,VG,I⟩;refine⟨_,rfl,λa E=>?_⟩;refine IF 1 E I (λay a E=>?_) λay a E=>?_
   ·
    have vm:r2=false:=by simpa using ay
    have Dm:zF=false→bad=false∧mH=eW p fr b g:=λh=>by
     obtain⟨h1,h2⟩:=fN h;obtain⟨h3,h4⟩:=oc h1;refine⟨h3,?_⟩;rw[aQ,h2,vm]at h4;exact h4
    refine RT 3 E I ?_;exact⟨mH,zF,_,rfl,Dm,I.sub⟩
   have tO:r2=true:=by simpa using ay
   refine RN 0 E I λa E=>?_;refine⟨200-(n+1),by omega,n+1,xA,mH,zF,⟨rfl,by omega,VG,λh=>?_⟩,E.ab [4,9,10],I.sub⟩;obtain⟨h1,h2⟩:=fN h;obtain⟨h3,h4⟩:=oc h1;refine⟨h3,?_⟩;rw[aQ,h2,tO]at h4;exact h4
  refine RT 3 E I ?_;refine⟨g',fm,_,rfl,λh=>?_,I.sub⟩;obtain⟨h3,h4⟩:=oc h;rw[Dk (by omega)]at h4;exact⟨h3,h4⟩
 have lD:n=200:=by omega
 refine RH 9 E I hH hC λa E=>?_;refine RT 4 E I ?_;refine⟨g',fm,_,rfl,λh=>?_,I.sub⟩;obtain⟨h3,h4⟩:=oc h;rw[lD]at h4;exact⟨h3,h4⟩
end
end
section
def distinct:List Nat→Nat
 | []=>0
 | x::l=>distinct l+if x∈l then 0 else 1
def kJ (l:List aC):List Nat:=l.flatMap λx=>[x.p 0,x.p 1,x.p 2,x.p 3]
theorem VH {l:List aC}{p:Nat}:p∈kJ l↔0<cJ l p:=by
 induction l with
 | nil=>simp[kJ,cJ]
 | cons x l ih =>
  rw[r5];have h1:kJ (x::l)=[x.p 0,x.p 1,x.p 2,x.p 3]++kJ l:=rfl;rw[h1,eM,ih];constructor
  ·rintro (h | h)
   ·have h2 : 0 < g6 x p := HZ.2 (by
     simp at h;rcases h with h | h | h | h
     ·exact⟨0,by omega,h.symm⟩
     ·exact⟨1,by omega,h.symm⟩
     ·exact⟨2,by omega,h.symm⟩
     ·exact⟨3,by omega,h.symm⟩)
    omega
   ·omega
  ·intro h;by_cases h2:0<g6 x p
   ·left;obtain⟨k,hk,rfl⟩:=HZ.1 h2;rcases (by omega:k=0∨k=1∨k=2∨k=3) with rfl | rfl | rfl | rfl <;> simp
   ·right;omega
theorem VI (n:Nat)(f:Nat→Bool)(x:Nat)(hx:x<n)(h0:f x=false):(List.range n).countP (λp=>p==x||f p)=(List.range n).countP f+1:=by
 induction n with
 | zero=>omega
 | succ n ih =>
  rw[range_succ,List.countP_append,List.countP_append,List.countP_singleton,List.countP_singleton];by_cases hn:x=n
  ·subst hn;have:(List.range x).countP (λp=>p==x||f p)=(List.range x).countP f:=countP_congr λp hp=>by
    have:p<x:=mem_range.1 hp;have h2:(p==x)=false:=by simp;omega
    simp[h2]
   rw[this,h0];simp
  ·have h2:(n==x)=false:=by simp;omega
   rw[ih (by omega),h2];simp;omega
theorem I5 (n:Nat):∀ l:List Nat,(∀ p∈l,p<n)→(List.range n).countP (λp=>decide (p∈l))=distinct l
 | [],_=>by simp[distinct]
 | x::l,h=>by
  have ih:=I5 n l λp hp=>h p (gO _ hp);rw[distinct,← ih];by_cases hx:x∈l
  ·rw[ak hx,Nat.add_zero];refine countP_congr λp _=>?_;simp only[List.mem_cons,decide_eq_true_eq];exact⟨λhp=>by rcases hp with rfl | hp;exact hx;exact hp,λhp=>.inr hp⟩
  ·rw[ae hx];have:=VI n (λp=>decide (p∈l)) x (h x mem_cons_self) (by simp[hx]);rw[← this];refine countP_congr λp _=>?_;simp
theorem VJ {A:Sn}(h:∀ x∈A.au,∀ k,k<4→x.p k<A.room):A.used=distinct (kJ A.au):=by
 rw[← I5 A.room (kJ A.au) (λp hp=>?_)]
 ·rw[Sn.used];refine countP_congr λp _=>?_;simp[VH]
 ·simp only[kJ,List.mem_flatMap]at hp;obtain⟨x,hx,hp⟩:=hp;simp at hp;rcases hp with rfl | rfl | rfl | rfl <;> exact h x hx _ (by omega)
section
variable {W w:World}{L R:List SP}{q r:Nat}{A:Sn}
class vD (L:List SP)(q:Nat)(r:outParam Nat)(A:outParam Sn)(R:outParam (List SP)):Prop where perm:L.Perm (aw q r A::R)
instance vD.head {L q r A}:vD (aw q r A::L) q r A L:=⟨List.Perm.refl _⟩
instance (priority:=low) vD.tail {B L q r A R}[h:vD L q r A R]:vD (B::L) q r A (B::R):=⟨(List.Perm.cons B h.perm).trans (List.Perm.swap _ _ _)⟩
theorem U.store (I:U W w L)(q:Nat)[k:vD L q r A R]:U W w (aw q r A::R):=I.perm k.perm
theorem aw.facts (I:U W w (aw q r A::L)):WF A∧∀ x∈A.au,∀ k,k<4→x.p k<A.room:=by
 obtain⟨b,m,ps,xs,h1,hw,hr,I⟩:=aw.open I;exact⟨hw,λx hx k hk=>by rw[← hr.len];exact (hr.live hx hk).1⟩
theorem aw.used (I:U W w (aw q r A::L)):A.used=distinct (kJ A.au):=VJ (aw.facts I).2
end
end
section
theorem VK (l:List aC)(p:Nat):(kJ l).count p=cJ l p:=by
 induction l with
 | nil=>rfl
 | cons x l ih =>
  have h1:kJ (x::l)=[x.p 0,x.p 1,x.p 2,x.p 3]++kJ l:=rfl;rw[h1,List.count_append,ih,r5,tx];simp only[List.count_cons,List.count_nil,beq_iff_eq];omega
theorem I6 (p:Nat):∀ l:List Nat,distinct l+(l.count p-1)≤l.length
 | []=>by simp[distinct]
 | x::l=>by
  have ih:=I6 p l;rw[distinct,List.count_cons,e7];by_cases hx:x=p
  ·subst hx;by_cases hm:x∈l
   ·have:=List.count_pos_iff.2 hm;simp[hm];omega
   ·have:=List.count_eq_zero.2 hm;simp[hm];omega
  ·have h1:(x==p)=false:=by simpa using hx
   simp only[h1,Bool.false_eq_true,if_false,Nat.add_zero];split <;> omega
theorem VL (l:List aC):(kJ l).length=4*l.length:=by
 induction l with
 | nil=>rfl
 | cons x l ih =>
  have h1:kJ (x::l)=[x.p 0,x.p 1,x.p 2,x.p 3]++kJ l:=rfl;rw[h1,aL,ih,e7];simp;omega
section
variable {W w:World}{L:List SP}{q r i bc:Nat}{A:Sn}{x px:aC}
theorem aw.shared (I:U W w (aw q r A::L)){p:Nat}(h:1<cJ A.au p):A.used<4*A.au.length:=by
 have h1:=I6 p (kJ A.au);rw[← aw.used I,VK,VL]at h1;omega
theorem VM {c:Nat}{v:Int}(I:U W w (aw q r A::L))(hx:A.au[i]?=some x)(hc:c<32) :
   Calls prog 346 #[pt q,.int .i64 x.id,.int .i64 c,.int .i32 v] w λe V=>∃ (ok:Bool) (p':Nat→Nat),e=.returned (.bool ok)∧(ok=false→¬ 4*A.au.length≤A.room) ∧
    ((ok=true∧U W V (aw q r { A with au:=A.au.set i { x with g:=cd x.g c v,p:=p' } }::L))∨(ok=false∧U W V (aw q r A::L))):=by
 have oe:c/8<4:=by omega
 by_cases h1:1<cJ A.au (x.p (c/8))
 ·by_cases hu:A.used<A.room
  ·exact (TL (v:=v) I hx hc h1 hu).mono λe V ⟨f,h2,_,I⟩=>⟨true,λj=>if j=c/8 then f else x.p j,h2,λh=>(by cases h),.inl ⟨rfl,I⟩⟩
  ·have hsh:=aw.shared I h1;exact (TM (v:=v) I hx hc h1 (by omega)).mono λe V ⟨h2,I⟩=>⟨false,x.p,h2,λ_=>by omega,.inr ⟨rfl,I⟩⟩
 ·have h3 : cJ A.au (x.p (c / 8)) = 1 := by
   have h4:=tz (bK hx) (x.p (c/8));have h5:=r4 (x:=x) oe;omega
  exact (TJ (v:=v) I hx hc h3).mono λe V ⟨h2,I⟩=>⟨true,x.p,h2,λh=>(by cases h),.inl ⟨rfl,I⟩⟩
theorem VN {g:Nat→Int}{c:Nat}{v:Int}(h:dM g)(hv:dq v):dM (cd g c v):=λj hj=>by
 simp only[cd];split
 ·exact hv
 ·exact h j hj
def Jw (q r bc i:Nat)(A:Sn)(px:aC)(g:Nat→Int)(bad:Bool):SP:=λh=>∃ p':Nat→Nat,(dM g∧(bad=true→¬ 4*A.au.length≤A.room)) ∧
 cm [aa bc 307 [pt q,.int .i64 px.id,.bool bad],aw q r { A with au:=A.au.set i ⟨px.id,px.refs,g,p'⟩ }] h
theorem Jw.open {g:Nat→Int}{bad:Bool}(I:U W w (Jw q r bc i A px g bad::L)):∃ p':Nat→Nat,(dM g∧(bad=true→¬ 4*A.au.length≤A.room)) ∧
   U W w (aa bc 307 [pt q,.int .i64 px.id,.bool bad]::aw q r { A with au:=A.au.set i ⟨px.id,px.refs,g,p'⟩ }::L):=by
 obtain⟨p',h1,h2⟩:=I.jo (ι:=Nat→Nat) (p:=λ_=>dM g∧(bad=true→¬ 4*A.au.length≤A.room)) (B:=λp' h=>cm [aa bc 307 [pt q,.int .i64 px.id,.bool bad],aw q r { A with au:=A.au.set i ⟨px.id,px.refs,g,p'⟩ }] h) (λh ⟨p',h1,h2⟩=>⟨p',h1,h2⟩);exact⟨p',h1,h2.open λ_ h=>h⟩
theorem Jw.close {g:Nat→Int}{bad:Bool}{p':Nat→Nat}(I:U W w (aa bc 307 [pt q,.int .i64 px.id,.bool bad]::aw q r { A with au:=A.au.set i ⟨px.id,px.refs,g,p'⟩ }::L))(h1:dM g)(h2:bad=true→¬ 4*A.au.length≤A.room) :
   U W w (Jw q r bc i A px g bad::L):=U.shut (M:=[_,_]) I (λ_ x=>⟨p',⟨h1,h2⟩,x⟩)
theorem VO {g:Nat→Int}{bad:Bool}{c:Nat}(hx:i<A.au.length)(hc:c<32)(I:U W w (Jw q r bc i A px g bad::L)) :
   Calls prog 353 (List.toArray [pt bc,.int .i64 c]) w λe V=>e=.returned (.int .i32 (g c))∧U W V (Jw q r bc i A px g bad::L):=by
 obtain⟨p',⟨h1,h2⟩,I⟩:=Jw.open I;refine EN func353 ntmps353 rfl rfl λa E=>?_;refine bQ 3 [7] [0,1,2,4,5,6,8,3003,1007,1009,10,11,12,13,14] E I λa w E I hH hC=>?_;refine RH 9 E I hH hC λa E=>?_;refine CL 0 E I (H7 (i:=i) (x:=⟨px.id,px.refs,g,p'⟩) (I.store q) (by simp[hx]) hc) λa w E I=>?_;refine RN 5 E I λa E=>?_;refine RT 3 E I ?_;exact⟨rfl,Jw.close (p':=p') I.sub h1 h2⟩
theorem VP {g:Nat→Int}{bad:Bool}{c:Nat}{v:Int}(hx:i<A.au.length)(hc:c<32)(hv:dq v)(I:U W w (Jw q r bc i A px g bad::L)) :
   Calls prog 354 (List.toArray [pt bc,.int .i64 c,.int .i32 v]) w λe V=>∃ (g':Nat→Int) (fm:Bool),e=.returned (.tuple #[])∧((fm=true∧g'=g)∨(fm=false∧bad=false∧g'=cd g c v))∧U W V (Jw q r bc i A px g' fm::L):=by
 obtain⟨p',⟨h1,h2⟩,I⟩:=Jw.open I;refine EN func354 ntmps354 rfl rfl λa E=>?_;refine bQ 0 [13] [0,1,2,3,1004,5,6,7,8,10,11,12,14,15,3009,1013,1016,17,18,19,20,1021] E I λa w E I hH hC=>?_;refine RH 6 E I hH hC λa E=>?_;refine E.by (s:=11) (λiO E=>?_) (λiO E=>?_)
 ·
  refine RH 15 E I hH hC λa E=>?_;refine ST 0 E I (λa w E I=>?_);refine RT 0 E I ?_;exact⟨g,true,rfl,.inl ⟨rfl,rfl⟩,Jw.close (p':=p') I.sub h1 (λ_=>h2 iO)⟩
 refine RH 10 E I hH hC λa E=>?_;refine aY 0 E I (VM (i:=i) (x:=⟨px.id,px.refs,g,p'⟩) (v:=v) (I.store q) (by simp[hx]) hc) λok p2 a w E ⟨dm,VQ⟩=>?_;obtain⟨Ik,I⟩:(ok=ok)∧U W w (aw q r { A with au:=A.au.set i ⟨px.id,px.refs,if ok then cd g c v else g,if ok then p2 else p'⟩ }::aa bc 307 [pt q,.int .i64 px.id,.bool bad]::L):=by
  refine⟨rfl,?_⟩;rcases VQ with ⟨rfl,I⟩ | ⟨rfl,I⟩
  ·simp only[set_set]at I;exact I
  ·exact I
 refine ST 4 E I (λa w E I=>?_);refine RT 0 E I ?_;refine⟨if ok then cd g c v else g,!ok,rfl,?_,Jw.close (p':=if ok then p2 else p') I.sub ?_ (λh=>?_)⟩
 ·cases ok
  ·exact .inl ⟨rfl,rfl⟩
  ·exact .inr ⟨rfl,iO,rfl⟩
 ·cases ok
  ·exact h1
  ·exact VN h1 hv
 ·have:=dm (by simpa using h);simpa using this
theorem VR (hx:i<A.au.length):xx W 305 ⟨bc,0,none⟩ 353 354 (Jw q r bc i A px) where
 n3:=λad w=>by kernel_rfl
 n4:=(by kernel_rfl)
 zE:=λad w=>by kernel_rfl
 vi:=(by kernel_rfl)
 ok:=λw L g bad h=>by obtain⟨_,⟨h1,_⟩,_⟩:=Jw.open h;exact h1
 get:=λw L g bad c hc h=>VO hx hc h
 set:=λw L g bad c v hc hv h=>VP hx hc hv h
end
end
section
abbrev cv (p:Pr)(aq:Option Addr)(cO tq jq sq:Nat)(k:Wk):List Value :=
 [.string p.title,.slice aq p.ops.length cO,pt tq,pt jq,pt sq,.bool k.busy,.int .i64 k.jb,.int .i64 k.je,.int .i64 k.x,.int .i64 k.done,.bool k.l9]
section
variable {W w:World}{L:List SP}{tq jq sq r wb i kk cO:Nat}{aq:Option Addr}{A:Sn}{T:Tr}{J:Js}{k:Wk}{p:Pr}{x:Br}{px:aC}
theorem I7 (I:U W w (aa wb 247 (cv p aq cO tq jq sq k)::L)) :
   Calls prog 184 #[pt wb] w λe V=>e=.returned (.bool k.busy)∧U W V (aa wb 247 (cv p aq cO tq jq sq k)::L):=by
 refine EN func184 ntmps184 rfl rfl λa E=>?_;refine RN 6 E I λa E=>?_;replace E:=E.ef 5;refine RT 6 E I ?_;exact⟨rfl,I⟩
theorem xC (I:U W w (aa wb 247 (cv p aq cO tq jq sq k)::aw sq r A::L))(hb:k.busy=true) :
   Calls prog 145 #[pt wb] w λe V=>e=.returned (.bool true)∧U W V (aa wb 247 (cv p aq cO tq jq sq { k with busy:=false })::aw sq r (A.eu k.x)::L):=by
 refine EN func145 ntmps145 rfl rfl λa E=>?_;refine CL 5 E I (I7 I) λa w E I=>?_;rw[hb]at E;refine RN 1 E I λa E=>?_;replace E:=E.aN 5;refine bQ 2 [7] [0,1,2,4,5,6,3003,1007,1008] E I λa w E I hH hC=>?_;refine RH 8 E I hH hC λa E=>?_;refine bg 0 E I (zq (I.store sq)) λv a w E I=>?_;refine ST 4 E I (λa w E I=>?_) (hlt:=(by simp[cv]));change U W w (aa wb 247 (cv p aq cO tq jq sq { k with busy:=false })::_) at I;refine RT 2 E I ?_;exact⟨rfl,I.sub⟩
theorem I8 (I:U W w (aa wb 247 (cv p aq cO tq jq sq k)::L))(hb:k.busy=false) :
   Calls prog 145 #[pt wb] w λe V=>e=.returned (.bool false)∧U W V (aa wb 247 (cv p aq cO tq jq sq k)::L):=by
 refine EN func145 ntmps145 rfl rfl λa E=>?_;refine CL 5 E I (I7 I) λa w E I=>?_;rw[hb]at E;refine RN 1 E I λa E=>?_;replace E:=E.ef 5;refine RT 3 E I ?_;exact⟨rfl,I⟩
theorem zG {id:Int}(I:U W w (Tree tq sq T::L)) :
   Calls prog 143 #[pt tq,.int .i64 id] w λe V=>∃ (x:Br) (ad:Option Addr) (c:Nat) (ok:Bool),e=.returned (.tuple #[.agg (ca x ad c).toArray,.bool ok])∧((ok=true∧x∈T.l∧(x.id:Int)=id)∨(ok=false∧∀ y∈T.l,(y.id:Int)≠id)) ∧
    U W V (b9 ad x.al.length c x.al::Tree tq sq T::L):=by
 by_cases h:∃ x∈T.l,(x.id:Int)=id
 ·obtain⟨x,hx,rfl⟩:=h;obtain⟨k,hk⟩:=jN.1 hx;exact (xe I hk).mono λe V ⟨ad,c,h1,I⟩=>⟨x,ad,c,true,h1,.inl ⟨rfl,hx,rfl⟩,I⟩
 ·have hn:∀ y∈T.l,(y.id:Int)≠id:=λy hy e=>h ⟨y,hy,e⟩;exact (Ud I hn).mono λe V ⟨h1,I⟩=>⟨⟨0,0,[],0,0⟩,none,0,false,h1,.inr ⟨rfl,hn⟩,b9.nil I⟩
theorem VS {id:Nat}(I:U W w (aw sq r A::L))(hx:A.au[i]?=some px)(bO:px.id=id)(hb:A.n+1<1099511627776) :
   Calls prog 181 #[pt sq,.int .i64 id] w λe V=>e=.returned (.tuple #[.int .i64 ((A.last+1:Nat):Int),.bool true])∧U W V (aw sq r (A.add px.g px.p)::L):=by
 subst bO;exact Ia I hx hb
theorem VT {d:Nat}{id:Nat}(I:U W w (Tree tq sq T::aw sq r A::L))(hx:T.l[kk]?=some x)(kf:d≤x.al.length)(hp:A.au[i]?=some px)(bO:px.id=id) :
   Calls prog 186 #[pt tq,.int .i64 x.id,.int .i64 d,.int .i64 id] w λe V=>e=.returned (.bool (decide (x.done<d))) ∧
    ((x.done<d∧U W V (Tree tq sq (T.ix kk x d id)::aw sq r (A.eu x.snap)::L))∨(d≤x.done∧U W V (Tree tq sq T::aw sq r A::L))):=by
 subst bO;by_cases h:x.done<d
 ·exact (Uk I hx h kf hp).mono λe V ⟨h1,I⟩=>⟨by rw[h1,dk h],.inl ⟨h,I⟩⟩
 ·exact (Ui (d:=(d:Int)) (i:=i) (px:=px) I hx (.inl (by omega))).mono λe V ⟨h1,I⟩=>⟨by rw[h1,bn h],.inr ⟨by omega,I⟩⟩
theorem VU {A:Sn}{i:Nat}{px:aC}{g:Nat→Int}{p':Nat→Nat}(hA:WF A)(hB:WF { A with au:=A.au.set i ⟨px.id,px.refs,g,p'⟩ })(hi:A.au[i]?=some px)(hr:px.refs=1) :
   ({ A with au:=A.au.set i ⟨px.id,px.refs,g,p'⟩ }:Sn).eu px.id=A.eu px.id:=by
 have hl:=(a2.1 hi).1;rw[xi hA hi,xi (px:=⟨px.id,px.refs,g,p'⟩) hB (i:=i) (by simp[hl])];simp[Sn.drop,hr,eraseIdx_set_eq]
theorem VV (I:U W w (aa wb 247 (cv p aq cO tq jq sq k)::Tree tq sq T::aw sq r A::bI jq J::L))(hb:k.busy=false)(VW:∀ x∈T.l,∃ (i:Nat) (px:aC),A.au[i]?=some px∧px.id=x.snap)(hn:A.n+1<1099511627776) :
   Calls prog 142 #[pt wb] w λe V=>∃ (z:Bool) (A':Sn) (J':Js) (k':Wk),e=.returned (.bool z)∧k5 p A T J k z A' T J' k' ∧
    U W V (aa wb 247 (cv p aq cO tq jq sq k')::Tree tq sq T::aw sq r A'::bI jq J'::L):=by
 refine EN func142 ntmps142 rfl rfl λa E=>?_;refine CL 7 E I (UO (I.tK jq)) λa w E I=>?_;refine AL 3 E I λb3 a w E I=>?_;refine SA 0 E I λa w E I=>?_;refine IF 5 E I (λaj a E=>?_) λaj a E=>?_
 ·
  obtain rfl:J=[]:=by simpa using aj
  change U W w (aa b3 245 [.int .i64 0,.int .i64 0]::bI jq []::_) at I;refine RT 2 E I ?_;exact⟨false,A,[],k,rfl,.idle hb rfl,I.sub⟩
 obtain⟨j,J',rfl⟩:∃ j J',J=j::J':=by
  cases J with
  | nil=>simp at aj
  | cons j J'=>exact⟨j,J',rfl⟩
 change U W w (aa b3 245 [.int .i64 j.1,.int .i64 j.2]::bI jq J'::_) at I;replace E:=E.ab [0,3];clear aj;refine RN 0 E I λa E=>?_;refine b7 (M:=λa w=>∃ (b5:Nat) (x:Br) (ad:Option Addr) (c:Nat) (ok:Bool),((ok=true∧x∈T.l∧(x.id:Int)=j.1)∨(ok=false∧∀ y∈T.l,(y.id:Int)≠j.1))∧Fr a 85 [(0,pt wb),(3,pt b3),(5,pt b5),(6,.bool ok)]∧U W w (aa b5 238 (ca x ad c)::aa b3 245 [.int .i64 j.1,.int .i64 j.2]::bI jq J'::aa wb 247 (cv p aq cO tq jq sq k)::Tree tq sq T::aw sq r A::L)) ?_ ?_
 ·
  refine aZ 0 (λw0 V=>Rd V wb 0 (cv p aq cO tq jq sq k)∧Rd V b3 0 [.int .i64 j.1,.int .i64 j.2]) [5,10] [0,1,2,4,3003,3005,2006,7,8,9,1010,1011,12] E I λa w E I hH=>?_;have hC:=hH.at w (And.intro I.ai I.ai);refine RH 4 E I hH hC λa E=>?_;refine QH E (λw hc=>ag E (hc.1 2 _ rfl)) hC λa E=>?_;refine QH E (λw hc=>ag E (hc.2 0 _ rfl)) hC λa E=>?_;refine RH 0 E I hH hC λa E=>?_;refine DN [(6,[7,8,9,1010,1011,12]),(10,[1006,7,8,9,1011,12])] (by kernel_rfl) rfl ⟨⟨_,rfl,?_⟩,⟨_,rfl,?_⟩,trivial⟩
  ·
   refine RH 0 E I hH hC λa E=>?_;refine jJ 0 E I (zG (id:=j.1) (I.tree tq)) ?_;clear E I;rintro e w ⟨x,ad,c,ok,rfl,dm,I⟩;refine⟨_,rfl,λa E=>?_⟩;refine RN 3 E I λa E=>?_;refine eR E rfl I Ty.t238 rfl λb5 a w E I ho=>?_;clear ho;replace hC:=hH.at w (And.intro I.ai I.ai);refine RH 0 E I hH hC λa E=>?_;refine SA 0 E I λa w E I=>?_;refine RN 1 E I λa E=>?_;exact⟨_,x,ad,c,ok,dm,E.ab [0,3,5,6],I.sub⟩
  refine RH 0 E I hH hC λa E=>?_;refine eR E rfl I Ty.t238 rfl λb5 a w E I ho=>?_;clear ho;replace hC:=hH.at w (And.intro I.ai I.ai);refine RH 0 E I hH hC λa E=>?_;refine jJ 0 E I (zG (id:=j.1) (I.tree tq)) ?_;clear E I;rintro e w ⟨x,ad,c,ok,rfl,dm,I⟩;refine⟨_,rfl,λa E=>?_⟩;refine SA 3 E I λa w E I=>?_;refine RN 1 E I λa E=>?_;exact⟨_,x,ad,c,ok,dm,E.ab [0,3,5,6],I.sub⟩
 clear E;(try clear I);rintro a w ⟨b5,x,ad,c,ok,dm,E,I⟩;refine aZ 2 (λw0 V=>Rd V wb 0 (cv p aq cO tq jq sq k)∧Rd V b3 0 [.int .i64 j.1,.int .i64 j.2]∧Rd V b5 0 (ca x ad c)) [5,6,16,17] [0,2,3,4,3001,1005,1006,7,8,9,10,11,12,13,15,3014,1016,1017,18,19] E I λa w E I hH=>?_;have hC:=hH.at w ⟨I.ai,I.ai,I.ai⟩;refine RH 4 E I hH hC λa E=>?_;refine QH E (λw hc=>ag E (hc.2.1 1 _ rfl)) hC λa E=>?_;refine RH 1 E I hH hC λa E=>?_;refine CL 0 E I (zn (I.tree tq)) λa w E I=>?_;replace hC:=hH.at w ⟨I.ai,I.ai,I.ai⟩;refine RH 2 E I hH hC λa E=>?_;refine E.by (s:=36) (λfa E=>?_) (λfa E=>?_)
 ·
  refine RH 11 E I hH hC λa E=>?_;refine RT 3 E I ?_;exact⟨true,A,J',k,rfl,.xm hb rfl (.inl fa),I.sub⟩
 refine RH 4 E I hH hC λa E=>?_;refine E.by (s:=40) (λhS E=>?_) (λhS E=>?_)
 ·
  have bU:∀ y∈T.l,(y.id:Int)≠j.1:=by
   rcases dm with ⟨h,_⟩ | ⟨_,h⟩
   ·rw[h]at hS;cases hS
   ·exact h
  refine RH 7 E I hH hC λa E=>?_;refine RT 3 E I ?_;exact⟨true,A,J',k,rfl,.xm hb rfl (.inr (.inl bU)),I.sub⟩
 obtain⟨hx,bO⟩:x∈T.l∧(x.id:Int)=j.1:=by
  rcases dm with ⟨_,h⟩ | ⟨h,_⟩
  ·exact h
  ·rw[h]at hS;cases hS
 refine RH 2 E I hH hC λa E=>?_;refine QH E (λw hc=>ag E (hc.2.2 3 _ rfl)) hC λa E=>?_;refine RH 0 E I hH hC λa E=>?_;refine bE E (cS E rfl (s:=40)) (ag E (hC.2.2 2 _ rfl)) rfl λa E=>?_;refine RH 3 E I hH hC λa E=>?_;refine IF 0 E I (λao a E=>?_) λao a E=>?_
 ·
  refine RT 2 E I ?_;exact⟨true,A,J',k,rfl,.xm hb rfl (.inr (.inr ⟨x,hx,bO,by omega⟩)),I.sub⟩
 refine RN 1 E I λa E=>?_;obtain⟨i,px,g9,kK⟩:=VW x hx;refine aZ 0 (λw0 V=>Rd V wb 0 (cv p aq cO tq jq sq k)∧Rd V b5 0 (ca x ad c)) [5] [0,1,2,4,3003,1005,1006,7,8,9,10,11] E I λa w E I hH=>?_;have hC:=hH.at w ⟨I.ai,I.ai⟩;refine RH 4 E I hH hC λa E=>?_;refine QH E (λw hc=>ag E (hc.1 4 _ rfl)) hC λa E=>?_;refine RH 0 E I hH hC λa E=>?_;refine SS E (ag E (hC.2 4 _ rfl)) λa E=>?_;refine RH 0 E I hH hC λa E=>?_;refine CL 0 E I (VS (I.store sq) g9 kK hn) λa w E I=>?_;refine RN 5 E I λa E=>?_;refine RN 4 E I λa E=>?_;replace E:=E.aN 59;refine aZ 2 (λw0 V=>Rd V b3 0 [.int .i64 j.1,.int .i64 j.2]∧Rd V b5 0 (ca x ad c)) [8,11,12,13,14,15,16,17] [0,1,2,3,4,6,7,9,10,3005,3008,1011,1012,1013,1014,1015,1016,1017,18,19,1020,21,22,1023] E I λa w E I hH=>?_;have hC:=hH.at w ⟨I.ai,I.ai⟩;refine RH 9 E I hH hC λa E=>?_;refine QH E (λw hc=>bT E underlying245 rfl Ty.t245 (hc.1)) hC λa E=>?_;refine QH E (λw hc=>ag E (hc.2 3 _ rfl)) hC λa E=>?_;refine RH 0 E I hH hC λa E=>?_;refine ST 0 E I (λa w E I=>?_) (hlt:=(by simp[cv]));replace hC:=hH.at w ⟨I.ai,I.ai⟩;refine RH 2 E I hH hC λa E=>?_;refine qt E rfl I Ty.t245 (by simp[Value.oneCell']) (by simp[cv]) λa w E I=>?_;replace hC:=hH.at w ⟨I.ai,I.ai⟩;refine RH 2 E I hH hC λa E=>?_;refine ST 0 E I (λa w E I=>?_) (hlt:=(by simp[cv,cB]));replace hC:=hH.at w ⟨I.ai,I.ai⟩;refine RH 2 E I hH hC λa E=>?_;refine ST 0 E I (λa w E I=>?_) (hlt:=(by simp[cv,cB]));refine ST 2 E I (λa w E I=>?_) (hlt:=(by simp[cv,cB]));refine RN 0 E I λa E=>?_;change U W w (aa wb 247 (cv p aq cO tq jq sq ⟨true,j.1,j.2,A.last+1,x.done,false⟩)::_) at I;refine RT 2 E I ?_;exact⟨true,A.add px.g px.p,J',⟨true,j.1,j.2,A.last+1,x.done,false⟩,rfl,.CV hb rfl fa hx bO (by omega) g9 kK,I.sub⟩
theorem VX {ad:Option Addr}{c:Nat}(I:U W w (aa wb 247 (cv p aq cO tq jq sq k)::b9 ad x.al.length c x.al::Tree tq sq T::aw sq r A::bI jq J::aA W p aq cO::L))
   (hb:k.busy=true) (he:k.je=T.epoch) (hx:x∈T.l) (bO:(x.id:Int)=k.jb) (eB:k.l9=false) (hi:A.au[i]?=some px) (xD:px.id=k.x) (hr:px.refs=1) (hg:dM px.g) (hd:k.done<x.al.length) (hf:0≤x.frm∧x.frm≤1099511627776)
   (a1:dg p) (aE:p.title.size≤1000000000) (kj:J.length≤16) :
   Calls prog 146 #[pt wb,.agg (ca x ad c).toArray] w λe V=>∃ (A':Sn) (J':Js) (k':Wk),e=.returned (.tuple #[])∧k5 p A T J k true A' T J' k' ∧
    U W V (aa wb 247 (cv p aq cO tq jq sq k')::Tree tq sq T::aw sq r A'::bI jq J'::aA W p aq cO::L):=by
 have kL:=Tree.wt (I.tree tq);have hA:=(aw.facts (I.store sq)).1;have zH:=(kL.ok x hx).1;have aJ:=(a2.1 hi).1;have ma:x.al.length≤65536:=zH.1;refine EN func146 ntmps146 rfl rfl λa E=>?_;refine BX 1 E I λb3 a w E I=>?_;change U W w (aa b3 238 (ca x ad c)::_) at I;refine bQ 1 [7] [0,1,2,4,5,6,3003,1007,8,1009,10] E I λa w E I hH hC=>?_;refine RH 9 E I hH hC λa E=>?_;refine wP E rfl I rfl λeI a w E I ho=>?_;replace hC:=hC.trans ho;clear ho;change U W w (aa eI 307 [pt sq,.int .i64 k.x,.bool false]::_) at I;refine RH 1 E I hH hC λa E=>?_;refine RN 1 E I λa E=>?_;obtain⟨zs,hz,iU,I⟩:=b9.open (I.pick (b9 ad x.al.length c x.al));obtain⟨bb,oo,rfl,de⟩:=I.drew.bY ad (by omega);have VY:zs.length=x.al.length:=by rw[← hz,bd]
 have I9:zs[k.done]?=some (zs[k.done]'(by omega)):=aI (by omega);have Ja:x.al[k.done]?=some (zs[k.done]'(by omega)).2.2:=by rw[← hz,bm,I9];rfl
 have k0:=de k.done _ (by rw[bm,I9];rfl);have Dn:Rd w.drew wb 0 (cv p aq cO tq jq sq k):=I.drew.ai;have k7:Rd w.drew wb 0 (bP p aq cO):=Dn.part 0 2;have Jb:Rd w.drew b3 0 (ca x (some ⟨bb,oo,none⟩) c):=I.drew.ai;have VZ:(zs[k.done]'(by omega)).2.2.length≤1099511627776:=zH.2 _ (bK Ja);refine qF 0 (λV=>Rd V wb 0 (cv p aq cO tq jq sq k)∧Rd V wb 0 (bP p aq cO)∧Rd V b3 0 (ca x (some ⟨bb,oo,none⟩) c)∧V.cell? ⟨bb,oo+k.done,none⟩=some (aM (zs[k.done]'(by omega)))) [5,7,11,12,14,18,19,20] [0,1,2,4,6,8,9,10,13,15,16,17,3003,3007,3011,3012,3014,3018,3019,3020,1005,1021] E I λa E=>?_;replace I:=I.drew;generalize w.drew=w at I k0 Dn k7 Jb ⊢;have hC:=And.intro Dn (And.intro k7 (And.intro Jb k0));have hH:=Hd.any (λV=>Rd V wb 0 (cv p aq cO tq jq sq k)∧Rd V wb 0 (bP p aq cO)∧Rd V b3 0 (ca x (some ⟨bb,oo,none⟩) c)∧V.cell? ⟨bb,oo+k.done,none⟩=some (aM (zs[k.done]'(by omega))));refine RH 12 E I hH hC λa E=>?_;refine QH E (λw hc=>bT E underlying45 rfl Ty.t45 (hc.2.1)) hC λa E=>?_;refine QH E (λw hc=>ag E (hc.2.2.1 1 _ rfl)) hC λa E=>?_;refine QH E (λw hc=>ag E (hc.1 9 _ rfl)) hC λa E=>?_;refine RH 1 E I hH hC λa E=>?_;refine QH E (λw hc=>ag E (hc.2.2.1 2 _ rfl)) hC λa E=>?_;refine QH E (λw hc=>ag E (hc.1 9 _ rfl)) hC λa E=>?_;refine RH 1 E I hH hC λa E=>?_;refine QH E (λw hc=>ag E (hc.2.2.2)) hC λa E=>?_;refine RH 1 E I hH hC λa E=>?_;have dx:U W w (aw sq r { A with au:=A.au.set i ⟨px.id,px.refs,px.g,px.p⟩ }::aa eI 307 [pt sq,.int .i64 k.x,.bool false]::aA W p aq cO::Sl 22 1 (some ⟨bb,oo,none⟩) x.al.length c (zs.map aM)::ah a7 zs::aa wb 247 (cv p aq cO tq jq sq k)::aa b3 238 (ca x (some ⟨bb,oo,none⟩) c)::Tree tq sq T::bI jq J::L):=by
  rw[show ({ A with au:=A.au.set i ⟨px.id,px.refs,px.g,px.p⟩ }:Sn)=A from by rw[← xc hi]];exact I.sub
 rw[← xD]at dx;have tw:=Jw.close (i:=i) (A:=A) (px:=px) (g:=px.g) (bad:=false) (p':=px.p) (dx.sub (M:=aa eI 307 [pt sq,.int .i64 px.id,.bool false]::aw sq r { A with au:=A.au.set i ⟨px.id,px.refs,px.g,px.p⟩ }::aA W p aq cO::Sl 22 1 (some ⟨bb,oo,none⟩) x.al.length c (zs.map aM)::ah a7 zs::aa wb 247 (cv p aq cO tq jq sq k)::aa b3 238 (ca x (some ⟨bb,oo,none⟩) c)::Tree tq sq T::bI jq J::L)) hg (λh=>by cases h);refine jI 0 E I (I4 (M:=VR (W:=W) (q:=sq) (r:=r) (bc:=eI) (A:=A) (px:=px) (i:=i) aJ) tw a1 aE VZ (λV h=>(U.lY (h.sub (M:=Sl 22 1 (some ⟨bb,oo,none⟩) x.al.length c (zs.map aM)::ah a7 zs::[]))).2 _ (getElem_mem _))) λmH zF sk a w E ⟨oc,I⟩=>?_;obtain⟨p2,⟨bA,V0⟩,I⟩:=Jw.open I;have vE:=(aw.facts (I.store sq)).1;refine RN 0 E I λa E=>?_;refine IF 6 E I (λaj a E=>?_) λaj a E=>?_
 ·
  refine CL 2 E I (xC (L:=Tree tq sq T::bI jq J::aA W p aq cO::L) (I.sub (M:=aa wb 247 (cv p aq cO tq jq sq k)::aw sq r { A with au:=A.au.set i ⟨px.id,px.refs,mH,p2⟩ }::Tree tq sq T::bI jq J::aA W p aq cO::L)) hb) λa w E I=>?_;refine RN 0 E I λa E=>?_;have vF:Rd w wb 6 [.int .i64 k.jb,.int .i64 k.je]:=(I.ai (b:=wb)).part 6 2;refine aZ 1 (λw0 V=>Rd V wb 0 (cv p aq cO tq jq sq { k with busy:=false })∧Rd V wb 6 [.int .i64 k.jb,.int .i64 k.je]) [7] [0,1,2,4,5,6,3003,1007,1008] E I λa w E I hH=>?_;replace vF:Rd w wb 6 [.int .i64 k.jb,.int .i64 k.je]:=(I.ai (b:=wb)).part 6 2;have hC:=hH.at w ⟨I.ai,vF⟩;refine RH 6 E I hH hC λa E=>?_;refine QH E (λw hc=>ag E (hc.1 3 _ rfl)) hC λa E=>?_;refine RH 0 E I hH hC λa E=>?_;refine SS E (bT E underlying245 rfl Ty.t245 (hC.2)) λa E=>?_;refine RH 0 E I hH hC λa E=>?_;refine CL 0 E I (zt (I.tK jq) kj) λa w E I=>?_;change U W w (bI jq (lA J k.jb k.je)::_) at I;refine RT 0 E I ?_;refine⟨A.eu k.x,lA J k.jb k.je,{ k with busy:=false },rfl,.failed hb he hx bO eB (V0 aj),?_⟩;rw[← xD,VU hA vE hi hr] at *;exact I.sub
 refine ST 3 E I (λa w E I=>?_) (hlt:=(by simp[cv]));change U W w (aa wb 247 (cv p aq cO tq jq sq { k with l9:=true })::_) at I;refine RT 0 E I ?_;obtain⟨_,ng⟩:=oc aj;subst ng;exact⟨_,J,{ k with l9:=true },rfl,.l9 (p':=p2) hb he hx bO eB hi xD Ja bA,I.sub⟩
theorem V1 {ad:Option Addr}{c:Nat}(I:U W w (aa wb 247 (cv p aq cO tq jq sq k)::Tree tq sq T::aw sq r A::bI jq J::L))
   (hb:k.busy=true) (he:k.je=T.epoch) (hx:T.l[kk]?=some x) (bO:(x.id:Int)=k.jb) (eB:k.l9=true) (hi:A.au[i]?=some px) (xD:px.id=k.x) (hd:k.done<x.al.length) (kj:J.length≤16) :
   Calls prog 147 #[pt wb,.agg (ca x ad c).toArray] w λe V=>∃ (A':Sn) (T':Tr) (J':Js) (k':Wk),e=.returned (.tuple #[])∧k5 p A T J k true A' T' J' k' ∧
    U W V (aa wb 247 (cv p aq cO tq jq sq k')::Tree tq sq T'::aw sq r A'::bI jq J'::L):=by
 have kL:=Tree.wt (I.tree tq);have eC:=bK hx;have eH:=(a2.1 hx).1;have zH:=(kL.ok x eC).1;have ma:x.al.length≤65536:=zH.1;refine EN func147 ntmps147 rfl rfl λa E=>?_;refine BX 1 E I λb3 a w E I=>?_;change U W w (aa b3 238 (ca x ad c)::_) at I;refine aZ 2 (λw0 V=>Rd V wb 0 (cv p aq cO tq jq sq k)∧Rd V b3 0 (ca x ad c)) [5,9,10,14] [0,1,2,4,6,7,8,11,12,13,3003,3005,3009,3010,1014,1015] E I λa w E I hH=>?_;have hC:=hH.at w ⟨I.ai,I.ai⟩;refine RH 10 E I hH hC λa E=>?_;refine QH E (λw hc=>ag E (hc.1 2 _ rfl)) hC λa E=>?_;refine QH E (λw hc=>ag E (hc.2 0 _ rfl)) hC λa E=>?_;refine QH E (λw hc=>ag E (hc.1 9 _ rfl)) hC λa E=>?_;refine RH 1 E I hH hC λa E=>?_;refine SS E (ag E (hC.1 8 _ rfl)) λa E=>?_;refine RH 0 E I hH hC λa E=>?_;refine CL 0 E I (VT (kk:=kk) (d:=k.done+1) (L:=aa wb 247 (cv p aq cO tq jq sq k)::aa b3 238 (ca x ad c)::bI jq J::L) (I.sub (M:=Tree tq sq T::aw sq r A::aa wb 247 (cv p aq cO tq jq sq k)::aa b3 238 (ca x ad c)::bI jq J::L)) hx (by omega) hi xD) λa w E Jc=>?_;refine RN 0 E (U.start _) λa E=>?_;refine Qq 0 E (U.start _) (λaj a E=>?_) λaj a E=>?_
 ·
  have hlt:x.done<k.done+1:=by simpa using aj
  replace I:=(Jc.resolve_right (λh=>by omega)).2;refine ST 3 E I (λa w E I=>?_) (hlt:=(by simp[cv]));change U W w (aa wb 247 (cv p aq cO tq jq sq { k with busy:=false })::_) at I;refine CL 2 E I (I8 (k:={ k with busy:=false }) I rfl) λa w E I=>?_;refine RN 0 E I λa E=>?_;refine b7 (M:=λa w=>∃ (b4:Nat) (ad2:Option Addr) (c2:Nat),Fr a 55 [(0,pt wb),(4,pt b4),(5,.bool true)]∧U W w (aa b4 238 (ca { x with done:=k.done+1,snap:=k.x } ad2 c2)::aa wb 247 (cv p aq cO tq jq sq { k with busy:=false })::Tree tq sq (T.ix kk x (k.done+1) k.x)::aw sq r (A.eu x.snap)::bI jq J::L)) ?_ ?_
  ·
   refine aZ 0 (λw0 V=>Rd V wb 0 (cv p aq cO tq jq sq { k with busy:=false })∧Rd V b3 0 (ca x ad c)) [5,10] [0,1,2,4,3003,3005,2006,7,8,9,1010,1011,12] E I λa w E I hH=>?_;have hC:=hH.at w ⟨I.ai,I.ai⟩;refine RH 4 E I hH hC λa E=>?_;refine QH E (λw hc=>ag E (hc.1 2 _ rfl)) hC λa E=>?_;refine QH E (λw hc=>ag E (hc.2 0 _ rfl)) hC λa E=>?_;refine RH 0 E I hH hC λa E=>?_;refine DN [(6,[7,8,9,1010,1011,12]),(10,[1006,7,8,9,1011,12])] (by kernel_rfl) rfl ⟨⟨_,rfl,?_⟩,⟨_,rfl,?_⟩,trivial⟩
   ·
    refine RH 0 E I hH hC λa E=>?_;refine aY 0 E I (xe (x:={ x with done:=k.done+1,snap:=k.x }) (k:=kk) (I.tree tq) (by simp[Tr.ix,eH])) λad2 c2 a w E I=>?_;refine RN 3 E I λa E=>?_;refine eR E rfl I Ty.t238 rfl λb4 a w E I ho=>?_;clear ho;replace hC:=hH.at w (And.intro I.ai I.ai);refine RH 0 E I hH hC λa E=>?_;refine SA 0 E I λa w E I=>?_;refine RN 1 E I λa E=>?_;exact⟨_,ad2,c2,E.ab [0,4,5],I.sub⟩
   refine RH 0 E I hH hC λa E=>?_;refine eR E rfl I Ty.t238 rfl λb4 a w E I ho=>?_;clear ho;replace hC:=hH.at w (And.intro I.ai I.ai);refine RH 0 E I hH hC λa E=>?_;refine aY 0 E I (xe (x:={ x with done:=k.done+1,snap:=k.x }) (k:=kk) (I.tree tq) (by simp[Tr.ix,eH])) λad2 c2 a w E I=>?_;refine SA 3 E I λa w E I=>?_;refine RN 1 E I λa E=>?_;exact⟨_,ad2,c2,E.ab [0,4,5],I.sub⟩
  clear E;(try clear I);rintro a w ⟨b4,ad2,c2,E,I⟩;refine RN 3 E I λa E=>?_;replace E:=E.ef 38;refine IF 7 E I (λao a E=>?_) λao a E=>?_
  ·
   replace ao:((k.done+1:Nat):Int)<((x.al.length:Nat):Int):=ao;refine aZ 0 (λw0 V=>Rd V wb 0 (cv p aq cO tq jq sq { k with busy:=false })∧Rd V wb 6 [.int .i64 k.jb,.int .i64 k.je]) [7] [0,1,2,4,5,6,3003,1007,1008] E I λa w E I hH=>?_;have vF:Rd w wb 6 [.int .i64 k.jb,.int .i64 k.je]:=(I.ai (b:=wb)).part 6 2;have hC:=hH.at w ⟨I.ai,vF⟩;refine RH 6 E I hH hC λa E=>?_;refine QH E (λw hc=>ag E (hc.1 3 _ rfl)) hC λa E=>?_;refine RH 0 E I hH hC λa E=>?_;refine SS E (bT E underlying245 rfl Ty.t245 (hC.2)) λa E=>?_;refine RH 0 E I hH hC λa E=>?_;refine CL 0 E I (zt (I.tK jq) kj) λa w E I=>?_;change U W w (bI jq (lA J k.jb k.je)::_) at I;refine RT 0 E I ?_;refine⟨_,_,if k.done+1<x.al.length then lA J k.jb k.je else J,{ k with busy:=false },rfl,.ix (x:=x) (kk:=kk) hb he hx bO eB hlt (by omega),?_⟩;rw[ak (by omega)];exact I.sub
  replace ao:((x.al.length:Nat):Int)≤((k.done+1:Nat):Int):=ao;refine RT 0 E I ?_;refine⟨_,_,if k.done+1<x.al.length then lA J k.jb k.je else J,{ k with busy:=false },rfl,.ix (x:=x) (kk:=kk) hb he hx bO eB hlt (by omega),?_⟩;rw[ae (by omega)];exact I.sub
 have hlt:k.done+1≤x.done:=by
  have:=of_decide_eq_false aj;omega
 replace I:=(Jc.resolve_left (λh=>by omega)).2;refine CL 2 E I (xC (L:=aa b3 238 (ca x ad c)::Tree tq sq T::bI jq J::L) (I.sub (M:=aa wb 247 (cv p aq cO tq jq sq k)::aw sq r A::aa b3 238 (ca x ad c)::Tree tq sq T::bI jq J::L)) hb) λa w E I=>?_;refine RN 0 E I λa E=>?_;refine b7 (M:=λa w=>∃ (b4:Nat) (ad2:Option Addr) (c2:Nat),Fr a 55 [(0,pt wb),(4,pt b4),(5,.bool true)]∧U W w (aa b4 238 (ca x ad2 c2)::aa wb 247 (cv p aq cO tq jq sq { k with busy:=false })::Tree tq sq T::aw sq r (A.eu k.x)::bI jq J::L)) ?_ ?_
 ·
  refine aZ 0 (λw0 V=>Rd V wb 0 (cv p aq cO tq jq sq { k with busy:=false })∧Rd V b3 0 (ca x ad c)) [5,10] [0,1,2,4,3003,3005,2006,7,8,9,1010,1011,12] E I λa w E I hH=>?_;have hC:=hH.at w ⟨I.ai,I.ai⟩;refine RH 4 E I hH hC λa E=>?_;refine QH E (λw hc=>ag E (hc.1 2 _ rfl)) hC λa E=>?_;refine QH E (λw hc=>ag E (hc.2 0 _ rfl)) hC λa E=>?_;refine RH 0 E I hH hC λa E=>?_;refine DN [(6,[7,8,9,1010,1011,12]),(10,[1006,7,8,9,1011,12])] (by kernel_rfl) rfl ⟨⟨_,rfl,?_⟩,⟨_,rfl,?_⟩,trivial⟩
  ·
   refine RH 0 E I hH hC λa E=>?_;refine aY 0 E I (xe (x:=x) (k:=kk) (I.tree tq) hx) λad2 c2 a w E I=>?_;refine RN 3 E I λa E=>?_;refine eR E rfl I Ty.t238 rfl λb4 a w E I ho=>?_;clear ho;replace hC:=hH.at w (And.intro I.ai I.ai);refine RH 0 E I hH hC λa E=>?_;refine SA 0 E I λa w E I=>?_;refine RN 1 E I λa E=>?_;exact⟨_,ad2,c2,E.ab [0,4,5],I.sub⟩
  refine RH 0 E I hH hC λa E=>?_;refine eR E rfl I Ty.t238 rfl λb4 a w E I ho=>?_;clear ho;replace hC:=hH.at w (And.intro I.ai I.ai);refine RH 0 E I hH hC λa E=>?_;refine aY 0 E I (xe (x:=x) (k:=kk) (I.tree tq) hx) λad2 c2 a w E I=>?_;refine SA 3 E I λa w E I=>?_;refine RN 1 E I λa E=>?_;exact⟨_,ad2,c2,E.ab [0,4,5],I.sub⟩
 clear E;(try clear I);rintro a w ⟨b4,ad2,c2,E,I⟩;refine RN 3 E I λa E=>?_;replace E:=E.ef 38;refine IF 7 E I (λao a E=>?_) λao a E=>?_
 ·
  refine aZ 0 (λw0 V=>Rd V wb 0 (cv p aq cO tq jq sq { k with busy:=false })∧Rd V wb 6 [.int .i64 k.jb,.int .i64 k.je]) [7] [0,1,2,4,5,6,3003,1007,1008] E I λa w E I hH=>?_;have vF:Rd w wb 6 [.int .i64 k.jb,.int .i64 k.je]:=(I.ai (b:=wb)).part 6 2;have hC:=hH.at w ⟨I.ai,vF⟩;refine RH 6 E I hH hC λa E=>?_;refine QH E (λw hc=>ag E (hc.1 3 _ rfl)) hC λa E=>?_;refine RH 0 E I hH hC λa E=>?_;refine SS E (bT E underlying245 rfl Ty.t245 (hC.2)) λa E=>?_;refine RH 0 E I hH hC λa E=>?_;refine CL 0 E I (zt (I.tK jq) kj) λa w E I=>?_;change U W w (bI jq (lA J k.jb k.je)::_) at I;refine RT 0 E I ?_;refine⟨_,_,if x.done<x.al.length then lA J k.jb k.je else J,{ k with busy:=false },rfl,.lost (x:=x) hb he eC bO eB hlt,?_⟩;rw[ak (by omega)];exact I.sub
 refine RT 0 E I ?_;refine⟨_,_,if x.done<x.al.length then lA J k.jb k.je else J,{ k with busy:=false },rfl,.lost (x:=x) hb he eC bO eB hlt,?_⟩;rw[ae (by omega)];exact I.sub
structure Jd (p:Pr)(A:Sn)(T:Tr)(J:Js)(k:Wk):Prop where
 pr:dg p
 sz:p.title.size≤1000000000
 frm:∀ y∈T.l,0≤y.frm∧y.frm≤1099511627776
 gi:∀ x∈T.l,∃ (i:Nat) (px:aC),A.au[i]?=some px∧px.id=x.snap
 V2:k.busy=true→(∃ (i:Nat) (px:aC),A.au[i]?=some px∧px.id=k.x∧px.refs=1∧dM px.g)∧∀ y∈T.l,(y.id:Int)=k.jb→k.done<y.al.length
 n:A.n+1<1099511627776
 len:J.length≤16
theorem Inv.ready {F:Int}{g0:Nat→Int}{t:Nat→Nat}{base:Nat}{ws:List Wk}(h:Inv p F g0 t base A T ws)(hk:k∈ws)(hF:0≤F∧F≤1099511627776)(hp:dg p)(hz:p.title.size≤1000000000)(hn:A.n+1<1099511627776)(kj:J.length≤16):Jd p A T J k :=
 ⟨hp,hz,λy hy=>by rw[(h.fY y hy).1];exact hF,λx hx=>h.IP hx,λhb=>⟨by
  obtain⟨i,px,h1,h2⟩:=h.UQ hk hb;have h3:=h.au px (bK h1);exact⟨i,px,h1,h2,h3.1,h3.2⟩,λy hy he=>((h.k6 k hk).2 hb y hy he).1⟩,hn,kj⟩
theorem V3 (I:U W w (aa wb 247 (cv p aq cO tq jq sq k)::Tree tq sq T::aw sq r A::bI jq J::aA W p aq cO::L))(hr:Jd p A T J k) :
   Calls prog 102 #[pt wb] w λe V=>∃ (z:Bool) (A':Sn) (T':Tr) (J':Js) (k':Wk),e=.returned (.bool z)∧k5 p A T J k z A' T' J' k' ∧
    U W V (aa wb 247 (cv p aq cO tq jq sq k')::Tree tq sq T'::aw sq r A'::bI jq J'::aA W p aq cO::L):=by
 refine EN func102 ntmps102 rfl rfl λa E=>?_;refine RN 6 E I λa E=>?_;replace E:=E.aN 6;refine IF 8 E I (λao a E=>?_) λao a E=>?_
 ·
  refine jJ 2 E I (VV (p:=p) I ao hr.gi hr.n) ?_;clear E I;rintro e w ⟨z,A',J',k',rfl,tR,I⟩;refine⟨_,rfl,λa E=>?_⟩;refine RT 1 E I ?_;exact⟨z,A',T,J',k',rfl,tR,I⟩
 obtain⟨⟨i,px,g9,kK,a1,sm⟩,c8⟩:=hr.V2 ao;refine RN 0 E I λa E=>?_;refine b7 (M:=λa w=>∃ (b3:Nat) (x:Br) (ad:Option Addr) (c:Nat) (ok:Bool),((ok=true∧x∈T.l∧(x.id:Int)=k.jb)∨(ok=false∧∀ y∈T.l,(y.id:Int)≠k.jb))∧Fr a 57 [(0,pt wb),(3,pt b3),(4,.bool ok)]∧U W w (aa b3 238 (ca x ad c)::b9 ad x.al.length c x.al::aa wb 247 (cv p aq cO tq jq sq k)::Tree tq sq T::aw sq r A::bI jq J::aA W p aq cO::L)) ?_ ?_
 ·
  refine aZ 0 (λw0 V=>Rd V wb 0 (cv p aq cO tq jq sq k)) [8,13] [0,1,2,4,5,6,7,3003,3008,2009,10,11,12,1013,1014,15] E I λa w E I hH=>?_;have hC:=hH.at w I.ai;refine RH 7 E I hH hC λa E=>?_;refine QH E (λw hc=>ag E (hc 2 _ rfl)) hC λa E=>?_;refine QH E (λw hc=>ag E (hc 6 _ rfl)) hC λa E=>?_;refine RH 0 E I hH hC λa E=>?_;refine DN [(9,[10,11,12,1013,1014,15]),(13,[1009,10,11,12,1014,15])] (by kernel_rfl) rfl ⟨⟨_,rfl,?_⟩,⟨_,rfl,?_⟩,trivial⟩
  ·
   refine RH 0 E I hH hC λa E=>?_;refine jJ 0 E I (zG (id:=k.jb) (I.tree tq)) ?_;clear E I;rintro e w ⟨x,ad,c,ok,rfl,dm,I⟩;refine⟨_,rfl,λa E=>?_⟩;refine RN 3 E I λa E=>?_;refine eR E rfl I Ty.t238 rfl λb3 a w E I ho=>?_;clear ho;replace hC:=hH.at w I.ai;refine RH 0 E I hH hC λa E=>?_;refine SA 0 E I λa w E I=>?_;refine RN 1 E I λa E=>?_;exact⟨_,x,ad,c,ok,dm,E.ab [0,3,4],I.sub⟩
  refine RH 0 E I hH hC λa E=>?_;refine eR E rfl I Ty.t238 rfl λb3 a w E I ho=>?_;clear ho;replace hC:=hH.at w I.ai;refine RH 0 E I hH hC λa E=>?_;refine jJ 0 E I (zG (id:=k.jb) (I.tree tq)) ?_;clear E I;rintro e w ⟨x,ad,c,ok,rfl,dm,I⟩;refine⟨_,rfl,λa E=>?_⟩;refine SA 3 E I λa w E I=>?_;refine RN 1 E I λa E=>?_;exact⟨_,x,ad,c,ok,dm,E.ab [0,3,4],I.sub⟩
 clear E;(try clear I);rintro a w ⟨b3,x,ad,c,ok,dm,E,I⟩;refine aZ 2 (λw0 V=>Rd V wb 0 (cv p aq cO tq jq sq k)) [8,9] [0,1,2,3,5,6,7,3004,1008,1009,10,11,12,13,14,15] E I λa w E I hH=>?_;have hC:=hH.at w I.ai;refine RH 7 E I hH hC λa E=>?_;refine QH E (λw hc=>ag E (hc 7 _ rfl)) hC λa E=>?_;refine RH 0 E I hH hC λa E=>?_;refine SS E (ag E (hC 2 _ rfl)) λa E=>?_;refine RH 0 E I hH hC λa E=>?_;refine CL 0 E I (zn (I.tree tq)) λa w E I=>?_;replace hC:=hH.at w I.ai;refine RH 2 E I hH hC λa E=>?_;refine E.by (s:=42) (λkG E=>?_) (λkG E=>?_)
 ·
  refine RH 4 E I hH hC λa E=>?_;refine CL 2 E I (xC (L:=Tree tq sq T::bI jq J::aA W p aq cO::L) (I.sub (M:=aa wb 247 (cv p aq cO tq jq sq k)::aw sq r A::Tree tq sq T::bI jq J::aA W p aq cO::L)) ao) λa w E I=>?_;refine RT 2 E I ?_;exact⟨true,A.eu k.x,T,J,{ k with busy:=false },rfl,.gone ao (.inl kG),I.sub⟩
 refine RH 4 E I hH hC λa E=>?_;refine IF 0 E I (λay a E=>?_) λay a E=>?_
 ·
  have bU:∀ y∈T.l,(y.id:Int)≠k.jb:=by
   rcases dm with ⟨h,_⟩ | ⟨_,h⟩
   ·rw[h]at ay;cases ay
   ·exact h
  refine CL 1 E I (xC (L:=Tree tq sq T::bI jq J::aA W p aq cO::L) (I.sub (M:=aa wb 247 (cv p aq cO tq jq sq k)::aw sq r A::Tree tq sq T::bI jq J::aA W p aq cO::L)) ao) λa w E I=>?_;refine RT 2 E I ?_;exact⟨true,A.eu k.x,T,J,{ k with busy:=false },rfl,.gone ao (.inr bU),I.sub⟩
 obtain⟨hx,bO⟩:x∈T.l∧(x.id:Int)=k.jb:=by
  rcases dm with ⟨_,h⟩ | ⟨h,_⟩
  ·exact h
  ·rw[h]at ay;cases ay
 refine IF 7 E I (λbh a E=>?_) λbh a E=>?_
 ·
  refine jI 2 E I (VX (I.sub (M:=aa wb 247 (cv p aq cO tq jq sq k)::b9 ad x.al.length c x.al::Tree tq sq T::aw sq r A::bI jq J::aA W p aq cO::L)) ao kG hx bO bh g9 kK a1 sm (c8 x hx bO) (hr.frm x hx) hr.pr hr.sz hr.len) λA' J' k' a w E ⟨tR,I⟩=>?_;refine RT 2 E I ?_;exact⟨true,A',T,J',k',rfl,tR,I⟩
 obtain⟨kk,jM⟩:=jN.1 hx;refine jJ 2 E I (V1 (p:=p) (L:=aA W p aq cO::L) (I.sub (M:=aa wb 247 (cv p aq cO tq jq sq k)::Tree tq sq T::aw sq r A::bI jq J::aA W p aq cO::L)) ao kG jM bO bh g9 kK (c8 x hx bO) hr.len) ?_;clear E I;rintro e w ⟨A',T',J',k',rfl,tR,I⟩;refine⟨_,rfl,λa E=>?_⟩;refine RT 2 E I ?_;exact⟨true,A',T',J',k',rfl,tR,I⟩
end
end
section
theorem Dp {s:ByteArray}{j:Nat}(h:j<s.size):s.get! j=s[j]'h:=by
 have h2:j<s.data.size:=h;show s.data[j]! = s.data[j];rw[getElem!_pos s.data j h2]
theorem Je {s:ByteArray}{j:Nat}(h:s.size≤j):s.get! j=0:=by
 have h2:¬ j<s.data.size:=Nat.not_lt.2 h;show s.data[j]! = 0;rw[getElem!_neg s.data j h2];rfl
theorem qU (s:ByteArray)(p:Nat):(s.extract p s.size).size=s.size-p:=by simp[ByteArray.size_extract]
theorem V4 (s:ByteArray)(p k:Nat):(s.extract p s.size).get! k=s.get! (p+k):=by
 by_cases h:p+k<s.size
 ·have h2:k<(s.extract p s.size).size:=by rw[qU];omega
  rw[Dp h2,Dp h,ByteArray.getElem_extract]
 ·rw[Je (by rw[qU];omega),Je (by omega)]
theorem V5 (s:ByteArray)(p:Nat):Utf8.decode (s.extract p s.size) 0=Utf8.decode s p:=by
 have hc:∀ k,decide (k<s.size-p)=decide (p+k<s.size):=λk=>by
  by_cases h:p+k<s.size
  ·rw[dk h,dk (by omega)]
  ·rw[bn h,bn (by omega)]
 simp only[Utf8.decode,V4,qU,hc,Nat.zero_add,Nat.add_assoc]
theorem Dq (s:ByteArray)(p n:Nat):(s.extract p s.size).extract n (s.extract p s.size).size=s.extract (p+n) s.size:=by
 rw[qU,ByteArray.extract_extract]
 congr 1
 omega
def Dr (b n low r:Nat):Prop:=(b=192+r∧r<32∧n=2∧low=128)∨(b=224+r∧r<16∧n=3∧low=2048)∨(b=240+r∧r<8∧n=4∧low=65536)
def jW (s:ByteArray)(j:Nat):Nat:=(s.get! j).toNat
def fZ (s:ByteArray)(r:Nat):Nat→Nat
 | 0=>r
 | j+1=>fZ s r j*64+jW s (j+1)%64
theorem Ds (s:ByteArray)(j:Nat):jW s j<256:=(s.get! j).toNat_lt
theorem Dt {s:ByteArray}{r:Nat}(h:r<32):∀ j,fZ s r j<32*64 ^ j
 | 0=>by simpa [fZ] using h
 | j+1=>by
  have:=Dt (s:=s) h j;rw[fZ,Nat.pow_succ];omega
def zI (low r:Nat):Prop:=r<low∨1114111<r∨(55296≤r∧r<57344)
section
variable {s:ByteArray}{b n low r:Nat}
theorem V6 (hb:jW s 0=b)(h:b<128):Utf8.decode s 0=(b,1):=by
 simp only[jW]at hb;simp[Utf8.decode,hb,h]
theorem so (hb:jW s 0=b)(h1:128≤b)(h2:b<192∨248≤b):Utf8.decode s 0=(0xFFFD,1):=by
 have:=Ds s 0;simp only[jW]at hb this;have e1:¬ b<128:=by omega
 have e2:(b/32==6)=false:=by rw[lx];omega
 have e3:(b/16==14)=false:=by rw[lx];omega
 have iT:(b/8==30)=false:=by rw[lx];omega
 simp[Utf8.decode,hb,e1,e2,e3,iT,Utf8.runeError]
theorem Du (hb:jW s 0=b)(hd:Dr b n low r)(h:s.size<n∨∃ k,1≤k∧k<n∧jW s k/64≠2):Utf8.decode s 0=(0xFFFD,1):=by
 have hc:∃ k,1≤k∧k<n∧(decide (k<s.size)&&jW s k/64==2)=false:=by
  rcases h with h | ⟨k,h1,h2,h3⟩
  ·rcases Nat.eq_zero_or_pos s.size with h0 | h0
   ·exact⟨1,by omega,by rcases hd with h | h | h <;> omega,by rw[bn (by omega),Bool.false_and]⟩
   ·exact⟨s.size,by omega,h,by rw[bn (by omega),Bool.false_and]⟩
  ·exact⟨k,h1,h2,by rw[lx.2 h3,Bool.and_false]⟩
 obtain⟨k,h1,h2,h3⟩:=hc;simp only[jW]at hb h3;rcases hd with ⟨rfl,h4,rfl,rfl⟩ | ⟨rfl,h4,rfl,rfl⟩ | ⟨rfl,h4,rfl,rfl⟩
 ·have e1:¬ 192+r<128:=by omega
  have e2:((192+r)/32==6)=true:=by rw[beq_iff_eq];omega
  have e3:((192+r)/16==14)=false:=by rw[lx];omega
  have iT:((192+r)/8==30)=false:=by rw[lx];omega
  obtain rfl:k=1:=by omega
  simp only[Utf8.decode,Nat.zero_add,hb,e1,e2,e3,iT,h3,Utf8.runeError];simp
 ·have e1:¬ 224+r<128:=by omega
  have e2:((224+r)/32==6)=false:=by rw[lx];omega
  have e3:((224+r)/16==14)=true:=by rw[beq_iff_eq];omega
  have iT:((224+r)/8==30)=false:=by rw[lx];omega
  have hk:k=1∨k=2:=by omega
  rcases hk with rfl | rfl
  all_goals
   simp only[Utf8.decode,Nat.zero_add,hb,e1,e2,e3,iT,h3,Utf8.runeError];simp
 ·have e1:¬ 240+r<128:=by omega
  have e2:((240+r)/32==6)=false:=by rw[lx];omega
  have e3:((240+r)/16==14)=false:=by rw[lx];omega
  have iT:((240+r)/8==30)=true:=by rw[beq_iff_eq];omega
  have hk:k=1∨k=2∨k=3:=by omega
  rcases hk with rfl | rfl | rfl
  all_goals
   simp only[Utf8.decode,Nat.zero_add,hb,e1,e2,e3,iT,h3,Utf8.runeError];simp
theorem V7 (hb:jW s 0=b)(hd:Dr b n low r)(I:n≤s.size)(h:∀ k,1≤k→k<n→jW s k/64=2) :
   (zI low (fZ s r (n-1))→Utf8.decode s 0=(0xFFFD,1))∧(¬ zI low (fZ s r (n-1))→Utf8.decode s 0=(fZ s r (n-1),n)):=by
 simp only[zI];have hc:∀ k,1≤k→k<n→(decide (k<s.size)&&(s.get! k).toNat/64==2)=true:=λk h1 h2=>by
  rw[dk (by omega),Bool.true_and,beq_iff_eq];exact h k h1 h2
 have hlt:=Dt (s:=s) (r:=r) (by rcases hd with h | h | h <;> omega) (n-1);simp only[jW]at hb;rcases hd with ⟨rfl,h4,rfl,rfl⟩ | ⟨rfl,h4,rfl,rfl⟩ | ⟨rfl,h4,rfl,rfl⟩
 ·have e1:¬ 192+r<128:=by omega
  have e2:((192+r)/32==6)=true:=by rw[beq_iff_eq];omega
  have sr:fZ s r (2-1)=(192+r)%32*64+(s.get! 1).toNat%64:=by
   show r*64+(s.get! 1).toNat%64=_;omega
  have kf:Utf8.decode s 0=if 128≤fZ s r (2-1) then (fZ s r (2-1),2) else (0xFFFD,1):=by
   rw[sr];simp only[Utf8.decode,Nat.zero_add,hb,e1,e2,hc 1 (by omega) (by omega),Utf8.runeError];simp
  have aeo:fZ s r (2-1)<2048:=hlt;refine⟨λjR=>?_,λhg=>?_⟩
  ·rw[kf,ae (by omega)]
  ·rw[kf,ak (by omega)]
 ·have e1:¬ 224+r<128:=by omega
  have e2:((224+r)/32==6)=false:=by rw[lx];omega
  have e3:((224+r)/16==14)=true:=by rw[beq_iff_eq];omega
  have sr:fZ s r (3-1)=(224+r)%16*4096+(s.get! 1).toNat%64*64+(s.get! 2).toNat%64:=by
   show (r*64+(s.get! 1).toNat%64)*64+(s.get! 2).toNat%64=_;omega
  have kf:Utf8.decode s 0=if 2048≤fZ s r (3-1)∧Utf8.valid (fZ s r (3-1))=true then (fZ s r (3-1),3) else (0xFFFD,1):=by
   rw[sr];simp only[Utf8.decode,Nat.zero_add,hb,e1,e2,e3,hc 1 (by omega) (by omega),hc 2 (by omega) (by omega),Utf8.runeError];simp
  have hv:Utf8.valid (fZ s r (3-1))=true↔(fZ s r (3-1)<55296∨(57344≤fZ s r (3-1)∧fZ s r (3-1)≤1114111)):=by
   simp only[Utf8.valid,Bool.or_eq_true,fB,decide_eq_true_eq];omega
  refine⟨λjR=>?_,λhg=>?_⟩
  ·rw[kf,ae (by rw[hv];omega)]
  ·rw[kf,ak (by rw[hv];omega)]
 ·have e1:¬ 240+r<128:=by omega
  have e2:((240+r)/32==6)=false:=by rw[lx];omega
  have e3:((240+r)/16==14)=false:=by rw[lx];omega
  have iT:((240+r)/8==30)=true:=by rw[beq_iff_eq];omega
  have sr:fZ s r (4-1)=(240+r)%8*262144+(s.get! 1).toNat%64*4096+(s.get! 2).toNat%64*64+(s.get! 3).toNat%64:=by
   show ((r*64+(s.get! 1).toNat%64)*64+(s.get! 2).toNat%64)*64+(s.get! 3).toNat%64=_;omega
  have kf:Utf8.decode s 0=if 65536≤fZ s r (4-1)∧Utf8.valid (fZ s r (4-1))=true then (fZ s r (4-1),4) else (0xFFFD,1):=by
   rw[sr];simp only[Utf8.decode,Nat.zero_add,hb,e1,e2,e3,iT,hc 1 (by omega) (by omega),hc 2 (by omega) (by omega),hc 3 (by omega) (by omega),Utf8.runeError];simp
  have hv:Utf8.valid (fZ s r (4-1))=true↔(fZ s r (4-1)<55296∨(57344≤fZ s r (4-1)∧fZ s r (4-1)≤1114111)):=by
   simp only[Utf8.valid,Bool.or_eq_true,fB,decide_eq_true_eq];omega
  refine⟨λjR=>?_,λhg=>?_⟩
  ·rw[kf,ae (by rw[hv];omega)]
  ·rw[kf,ak (by rw[hv];omega)]
end
def zJ (x:Nat×Nat):Bool:=if x.1≠65533 then true else decide (x.2=3)
theorem V8 (s:ByteArray)(i:Nat):zJ (Utf8.decode s i)=l7 (Utf8.decode s i):=by
 rcases Iz s i with h | h
 ·unfold zJ l7;by_cases h1:(Utf8.decode s i).1=65533
  ·rw[h1]at h;have h2:(Utf8.decode s i).2=3:=by rw[← h];rfl
   rw[ae (λh3=>h3 h1),h2];have:Utf8.decode s i≠(65533,1):=λe=>by rw[e]at h2;cases h2
   simp[this]
  ·rw[ak h1];have:Utf8.decode s i≠(65533,1):=λe=>h1 (by rw[e]);simp[this]
 ·rw[h];rfl
def vG (c:Int):Nat:=[0,2,2,3,3,3,3,3,3,1,2,2,2,2,2,1].getD c.toNat 0
def zK (o:gy)(k:Nat):Int:=if k=0 then o.a else if k=1 then o.b else o.c
def jX (n:Int)(o:gy)(k:Nat):Int:=if vG o.code≤k then 0 else if o.code=9∨(o.code=10∧k=1) then n else 31
def qV (n:Int)(o:gy)(k:Nat):Prop:=(k<vG o.code∧o.code=1∧k=1)∨(0≤zK o k∧zK o k≤jX n o k)
theorem xE {n:Int}{o:gy}:eV n o↔(0≤o.code∧o.code≤15)∧qV n o 0∧qV n o 1∧qV n o 2:=by
 obtain⟨code,a,b,c⟩:=o;simp only[eV,qV,zK,jX,eU];by_cases h:0≤code∧code≤15
 ·have h2:∃ m:Nat,code=m∧m≤15:=⟨code.toNat,by omega,by omega⟩;obtain⟨m,rfl,hm⟩:=h2;have:m=0∨m=1∨m=2∨m=3∨m=4∨m=5∨m=6∨m=7∨m=8∨m=9∨m=10∨m=11∨m=12∨m=13∨m=14∨m=15:=by omega
  rcases this with rfl | rfl | rfl | rfl | rfl | rfl | rfl | rfl | rfl | rfl | rfl | rfl | rfl | rfl | rfl | rfl <;> simp[vG] <;> omega
 ·constructor
  ·intro h3;omega
  ·intro h3;exact absurd h3.1 h
end
end Go.Proofs.YteoldcfapaiobaaGreat
