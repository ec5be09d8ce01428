/- The walks of packages word and vm, over whatever memory keeps the cells. -/
import Derived.Test.YteoldcfapaiobaaGreatB04Job
import Derived.Test.YteoldcfapaiobaaGreatB01Row
import Derived.Test.YteoldcfapaiobaaGreatB03Snap2
namespace Go.Proofs.YteoldcfapaiobaaGreat
open Tryz
open List (mem_cons_self getElem?_append_right mem_range eraseIdx_set_eq append_nil getElem_mem set_set range_succ countP_congr)
open Go.RowKit
set_option linter.unusedVariables false
set_option linter.unusedSimpArgs false
set_option maxRecDepth 10000
set_option synthInstance.maxSize 4000
set_option synthInstance.maxHeartbeats 400000
section
section
variable {W w:World}{L:List SP}
theorem Jj {x:Int}(I:U W w L)(hx:du x):Calls prog 229 #[.int .i32 x,.int .i64 32] w λe V=>e=.returned (.int .i64 (km x))∧U W V L:=by
 have h1:=Int.tmod_lt_of_pos x (b:=32) (by decide);have h2:=Int.lt_tmod_of_pos x (b:=32) (by decide);have hm:(km x:Int)=x%32:=by
  have h1:=Int.emod_nonneg x (show (32:Int)≠0 by decide);show (((x%32).toNat:Nat):Int)=_;omega
 have ht:x.tmod 32=if 0≤x then x%32 else -((-x)%32):=by
  split
  ·exact Int.tmod_eq_emod_of_nonneg (by omega)
  ·rw[← Int.neg_neg (x.tmod 32),← Int.neg_tmod,Int.tmod_eq_emod_of_nonneg (by omega)]
 simp only[du]at hx;refine EN func229 ntmps229 rfl rfl λa E=>?_;refine RN 6 E I λa E=>?_;replace E:=E.aK 7;refine SX 3 E I (by rw[gi (by omega) (by omega)]) λa E=>?_;refine IF 7 E I (λao a E=>?_) λao a E=>?_
 ·
  refine RN 4 E I λa E=>?_;rw[show x.tmod 32+32=(km x:Int) from by rw[hm,ht];split <;> omega]at E;refine RT 3 E I ?_;exact⟨rfl,I⟩
 refine RT 3 E I ?_;exact⟨by rw[hm,show x.tmod 32=x%32 from by rw[ht] at *;split at*<;> omega],I⟩
theorem VM {x y:Int}(I:U W w L):Calls prog 244 #[.int .i32 x,.int .i32 y] w λe V=>e=.returned (.int .i32 (hX (x+y)))∧U W V L:=by
 refine EN func244 ntmps244 rfl rfl λa E=>?_;refine RT 7 E I ?_;exact⟨rfl,I⟩
theorem VN {x y:Int}(I:U W w L):Calls prog 245 #[.int .i32 x,.int .i32 y] w λe V=>e=.returned (.int .i32 (hX (x-y)))∧U W V L:=by
 refine EN func245 ntmps245 rfl rfl λa E=>?_;refine RT 7 E I ?_;exact⟨rfl,I⟩
theorem VO {x y:Int}(I:U W w L):Calls prog 246 #[.int .i32 x,.int .i32 y] w λe V=>e=.returned (.int .i32 (hX (x*y)))∧U W V L:=by
 refine EN func246 ntmps246 rfl rfl λa E=>?_;refine RT 7 E I ?_;exact⟨rfl,I⟩
theorem VP {x y:Int}(I:U W w L):Calls prog 247 #[.int .i32 x,.int .i32 y] w λe V=>e=.returned (.int .i32 (if y=0 then 0 else hX (x.tdiv y)))∧U W V L:=by
 refine EN func247 ntmps247 rfl rfl λa E=>?_;refine IF 8 E I (λaj a E=>?_) λaj a E=>?_
 ·
  refine RT 2 E I ?_;exact⟨by rw[al (by omega)],I⟩
 refine IF 3 E I (λao a E=>?_) λao a E=>?_
 ·
  refine RT 4 E I ?_;exact⟨by rw[ag (by omega),show y = -1 from by omega,Int.tdiv_neg,Int.tdiv_one,show (0:Int)-x = -x from by omega];rfl,I⟩
 refine RN 3 E I λa E=>?_;refine SS E (HS E (by omega)) λa E=>?_;refine RT 1 E I ?_;exact⟨by rw[ag (by omega)];rfl,I⟩
theorem Jk {z:Bool}(I:U W w L):Calls prog 248 #[.bool z] w λe V=>e=.returned (.int .i32 (if z=true then 1 else 0))∧U W V L:=by
 refine EN func248 ntmps248 rfl rfl λa E=>?_;refine IF 5 E I (λaj a E=>?_) λaj a E=>?_
 ·
  refine RT 2 E I ?_;exact⟨by rw[al aj],I⟩
 refine RT 2 E I ?_;exact⟨by rw[ag (by rw[aj];decide)],I⟩
theorem VQ {k x y:Int}(I:U W w L):Calls prog 242 #[.int .i64 k,.int .i32 x,.int .i32 y] w λe V=>e=.returned (.int .i32 (iP k x y))∧U W V L:=by
 refine EN func242 ntmps242 rfl rfl λa E=>?_;refine IF 8 E I (λaj a E=>?_) λaj a E=>?_
 ·
  refine CL 3 E I (VM I) λa w E I=>?_;refine RT 1 E I ?_;exact⟨by simp[iP,aj],I⟩
 refine IF 3 E I (λao a E=>?_) λao a E=>?_
 ·
  refine CL 3 E I (VN I) λa w E I=>?_;refine RT 1 E I ?_;exact⟨by simp[iP,ao],I⟩
 refine IF 3 E I (λaz a E=>?_) λaz a E=>?_
 ·
  refine CL 3 E I (VO I) λa w E I=>?_;refine RT 1 E I ?_;exact⟨by simp[iP,az],I⟩
 refine IF 3 E I (λbh a E=>?_) λbh a E=>?_
 ·
  refine CL 3 E I (VP I) λa w E I=>?_;refine RT 1 E I ?_;exact⟨by simp[iP,bh],I⟩
 refine IF 3 E I (λbQ a E=>?_) λbQ a E=>?_
 ·
  refine CL 4 E I (Jk I) λa w E I=>?_;refine RT 1 E I ?_;exact⟨by simp[iP,bQ],I⟩
 refine CL 4 E I (Jk I) λa w E I=>?_;refine RT 1 E I ?_;exact⟨by simp[iP,aj,ao,az,bh,bQ],I⟩
theorem VR {s:ByteArray}{n:Int}(I:U W w L)(aC:s.size≤1099511627776)(hn:du n):Calls prog 241 #[.string s,.int .i64 n] w λe V=>e=.returned (.int .i32 (mP s n))∧U W V L:=by
 simp only[du]at hn;refine EN func241 ntmps241 rfl rfl λa E=>?_;refine RN 5 E I λa E=>?_;refine Cv E rfl I underlying9 rfl λb8 a w E I ho=>?_;clear ho;refine RN 0 E I λa E=>?_;refine aP (λμ a w=>∃ (pos:Nat) (dn:List (Nat×Nat)),(μ=s.size-pos∧pos≤s.size∧ef s 0=dn++ef s pos∧dn.length≤pos∧(n<0∨(dn.length:Int)≤n))∧Fr a 17 [(0,.string s),(1,.int .i64 (n-dn.length)),(8,pt b8)]∧U W w (kD b8 (.stringIter s pos)::L)) (s.size) (⟨0,[],⟨by simp,by simp,by simp,by simp,by simp;omega⟩,by rw[show n-(([]:List (Nat×Nat)).length:Int)=n from by simp];exact E.ab [0,1,8],I⟩) ?_;clear E I;rintro μ a w ⟨pos,dn,⟨rfl,pV,dc,mj,qW⟩,E,I⟩;refine RN 1 E I λa E=>?_;refine Cx E rfl I rfl λa w E I=>?_;refine RN 0 E I λa E=>?_;refine SS E (nP E (Ct s pos)) λa E=>?_;refine IF 1 E I (λaj a E=>?_) λaj a E=>?_
 ·
  have mS:=qQ aj;have jg:=C9 pV;have o4:ec s pos=pos+(Utf8.decode s pos).2:=by rw[ec,al aj]
  have lk:=tJ s pos;refine RN 1 E I λa E=>?_;refine SS E (nP E (Cu aj)) λa E=>?_;refine IF 5 E I (λao a E=>?_) λao a E=>?_
  ·
   refine RT 3 E I ?_;refine⟨?_,I.sub⟩;have o6:n.toNat=dn.length:=by omega
   rw[mP,al (by omega),dc,mS,o6,getElem?_append_right (bk _),Nat.sub_self];rfl
  refine RN 3 E I λa E=>?_;exact⟨s.size-ec s pos,by omega,ec s pos,dn++[Utf8.decode s pos],⟨rfl,jg,by rw[dc,mS,dA];rfl,by rw[aM];simp;omega,by rw[aM];simp;omega⟩,by rw[show n-((dn++[Utf8.decode s pos]).length:Int)=n-(dn.length:Int)-1 from by rw[aM];simp;omega];exact E.ab [0,1,8],I.sub⟩
 refine RT 2 E I ?_;refine⟨?_,I.sub⟩;have gA:=qR (s:=s) (pos:=pos) aj;rw[gA,append_nil]at dc;rw[mP];split
 ·rw[dc,iw (by omega)];rfl
 ·rfl
structure xF (W:World)(t:TypeId)(ad:Addr)(tS fs:FuncId)(J:(Nat→Int)→Bool→SP):Prop where
 n4 : oS prog t "Get" tS
 oa:g4 prog tS=true
 zN : oS prog t "Set" fs
 vj:g4 prog fs=true
 ok:∀ (w:World) (L:List SP) (g:Nat→Int) (bad:Bool),U W w (J g bad::L)→dQ g
 get:∀ (w:World) (L:List SP) (g:Nat→Int) (bad:Bool) (c:Nat),c<32→U W w (J g bad::L)→Calls prog tS (List.toArray [.pointer (some ad),.int .i64 c]) w λe V=>e=.returned (.int .i32 (g c))∧U W V (J g bad::L)
 set:∀ (w:World) (L:List SP) (g:Nat→Int) (bad:Bool) (c:Nat) (v:Int),c<32→du v→U W w (J g bad::L)→Calls prog fs (List.toArray [.pointer (some ad),.int .i64 c,.int .i32 v]) w λe V =>
  ∃ (g':Nat→Int) (fp:Bool),e=.returned (.tuple #[])∧((fp=true∧g'=g)∨(fp=false∧bad=false∧g'=ck g c v))∧U W V (J g' fp::L)
abbrev ha (p:Pr)(aq:Option Addr)(cO:Nat)(t:TypeId)(ad:Addr)(fr:Int)(adP:Option Addr)(VS cP:Nat)(aV:Nat):List Value :=
 [.string p.title,.slice aq p.ops.length cO,.iface t (.pointer (some ad)),.int .i64 fr,.slice adP VS cP,.int .i64 aV]
variable {t:TypeId}{ad:Addr}{tS fs gl aV cO cP:Nat}{J:(Nat→Int)→Bool→SP}{p:Pr}{aq adP:Option Addr}{fr:Int}{b:List UInt8}{g:Nat→Int}{bad:Bool}{o:gy}
theorem VT {x:Int}(I:U W w (aa gl 336 (ha p aq cO t ad fr adP b.length cP aV)::L))(hx:du x)(hb:b.length≤1099511627776)(hp:∀ V,U W V L→aQ V adP b.length b) :
   Calls prog 240 #[pt gl,.int .i32 x] w λe V=>e=.returned (.int .i32 (mh b x))∧U W V (aa gl 336 (ha p aq cO t ad fr adP b.length cP aV)::L):=by
 simp only[du]at hx;refine EN func240 ntmps240 rfl rfl λa E=>?_;refine BY 7 E I (λbA a E=>?_) λbA a E=>?_
 ·
  refine RT 12 E I ?_;exact⟨by rw[mh,ag (by omega)],I⟩
 refine SX 1 E I (by rw[gi (by omega) (by omega)]) λa E=>?_;refine IF 7 E I (λaj a E=>?_) λaj a E=>?_
 ·
  refine RT 2 E I ?_;exact⟨by rw[mh,ag (by omega)],I⟩
 refine RN 1 E I λa E=>?_;obtain⟨k,hk⟩:∃ k:Nat,x=(k:Int):=⟨x.toNat,by omega⟩;obtain⟨_,_,a7⟩:=hp _ I.tail;have xG:k<b.length:=by omega
 obtain⟨bp,op,gR,dk⟩:∃ bp op,adP=some ⟨bp,op,none⟩∧Rd w bp op (bc b):=by
  cases hh:adP with
  | none =>
   have:=(hp _ I.tail).2.1 hh;omega
  | some a =>
   obtain⟨b1,o1,rfl,h1⟩:=a7 a hh (by omega);exact⟨b1,o1,rfl,h1⟩
 rw[hk]at E;refine RN 4 E I λa E=>?_;rw[gR]at E;refine RN 2 E I λa E=>?_;refine SS E (ae E (dk k (.int .u8 b[k].toNat) (by simp[bc,xG]))) λa E=>?_;refine SX 0 E I (by have:=b[k].toNat_lt;exact hY (by omega) (by omega)) λa E=>?_;refine RT 1 E I ?_;refine⟨?_,I.sub⟩;rw[mh,al (by omega),hk,Int.toNat_natCast,bl,aF xG];rfl
theorem nA {c:Nat}{v:Int}(h:dQ g)(hv:du v):dQ (ck g c v):=λd hd=>by
 simp only[ck];split
 ·exact hv
 ·exact h d hd
def qc (x:Int)(m:Nat):Prop:=∃ n:Nat,x=(n:Int)∧n≤m
def lI (x:Int)(m:Nat):Prop:=∃ n:Nat,x=(n:Int)∧n<m
theorem qc.of {x:Int}{m:Nat}(h:0≤x∧x≤m):qc x m:=⟨x.toNat,by omega,by omega⟩
theorem lI.of {x:Int}{m:Nat}(h:0≤x∧x<m):lI x m:=⟨x.toNat,by omega,by omega⟩
theorem VU {M:xF W t ad tS fs J}{m:Nat}(I:U W w (aa gl 336 (ha p aq cO t ad fr adP b.length cP aV)::J g bad::L))(ho:eZ m o)(h0:o.code≠0)(h9:o.code≠9)(fF:o.code≠10)(Jd:o.code≠13)
   (aC:p.title.size≤1000000000) (hb:b.length≤1099511627776) (hp:∀ V,U W V L→aQ V adP b.length b) :
   Calls prog 230 #[pt gl,.agg (dP o).toArray] w λe V=>e=.returned (.int .i32 (jw p fr b g o))∧U W V (aa gl 336 (ha p aq cO t ad fr adP b.length cP aV)::J g bad::L):=by
 have hg:dQ g:=M.ok _ _ g bad I.tail;have qd:=ho;simp only[eZ,eY]at qd;have ob:o.code≠1→o.code≠15→lI o.b 32:=λh1 h2=>lI.of (by omega);have mo:3≤o.code∧o.code≤8→lI o.c 32:=λh=>lI.of (by omega);have qX:o.code≠1→o.code≠2→o.code≠11→o.code≠12→o.code≠14→o.code≠15→3≤o.code∧o.code≤8:=by omega
 clear qd;refine EN func230 ntmps230 rfl rfl λa E=>?_;refine BX 1 E I λb3 a w E I=>?_;change U W w (aa b3 114 (dP o)::_) at I;refine IF 8 E I (λaj a E=>?_) λaj a E=>?_
 ·
  refine RN 3 E I λa E=>?_;refine SS E (gj E underlying3 underlying21) λa E=>?_;refine RT 1 E I ?_;exact⟨by simp[jw,aj];rfl,I.sub⟩
 refine IF 3 E I (λao a E=>?_) λao a E=>?_
 ·
  refine RN 1 E I λa E=>?_;obtain⟨bD,ea,oc⟩:=ob (by omega) (by omega);refine bS 0 [5] [0,1,2,4,3003,1005,1006,7] E I λa w E I hH hC=>?_;refine RH 6 E I hH hC λa E=>?_;rw[ea]at E;refine jv E rfl M.n4 M.oa rfl (M.get _ _ g bad bD oc (I.pick (J g bad))) (by rfl) ?_;clear E I;rintro e w ⟨rfl,I⟩;refine⟨_,rfl,λa E=>?_⟩;refine RN 1 E I λa E=>?_;refine RT 0 E I ?_;exact⟨by simp[jw,ao,ea],I.sub⟩
 refine IF 3 E I (λaz a E=>?_) λaz a E=>?_
 ·
  refine RN 1 E I λa E=>?_;obtain⟨bD,ea,oc⟩:=ob (by omega) (by omega);refine bS 0 [6] [0,1,2,3,5,3004,1006,1007,1008,9] E I λa w E I hH hC=>?_;refine RH 7 E I hH hC λa E=>?_;rw[ea]at E;refine jv E rfl M.n4 M.oa rfl (M.get _ _ g bad bD oc (I.pick (J g bad))) (by rfl) ?_;clear E I;rintro e w ⟨rfl,I⟩;refine⟨_,rfl,λa E=>?_⟩;refine CL 0 E I (VT (I.jD gl) (hg bD oc) hb (λV h=>hp V h.sub)) λa w E I=>?_;refine RN 1 E I λa E=>?_;refine RT 0 E I ?_;exact⟨by simp[jw,az,ea],I.sub⟩
 refine IF 3 E I (λbh a E=>?_) λbh a E=>?_
 ·
  refine aY 1 (λw0 V=>Rd V gl 0 (ha p aq cO t ad fr adP b.length cP aV)∧Rd V b3 0 (dP o)) [7,9,10,11] [0,1,2,4,5,6,8,3003,12,13,3007,1009,1010,1011,1014,15] E I λa w E I hH=>?_;obtain⟨bD,ea,oc⟩:=ob (by omega) (by omega);have xH:=xu (g bD);have jx:Rd w gl 0 (ha p aq cO t ad fr adP b.length cP aV):=I.ai;have gA:Rd w b3 0 (dP o):=I.ai;have hC:=And.intro jx gA;refine RH 7 E I hH hC λa E=>?_;refine QH E (λw hc=>ae E (hc.1 2 _ rfl)) hC λa E=>?_;refine RH 2 E I hH hC λa E=>?_;refine QH E (λw hc=>ae E (hc.1 2 _ rfl)) hC λa E=>?_;refine RH 0 E I hH hC λa E=>?_;refine SS E (ae E (hC.2 2 _ rfl)) λa E=>?_;rw[ea]at E;refine RH 0 E I hH hC λa E=>?_;refine jv E rfl M.n4 M.oa rfl (M.get _ _ g bad bD oc (I.pick (J g bad))) (by rfl) ?_;clear E I;rintro e w ⟨rfl,I⟩;refine⟨_,rfl,λa E=>?_⟩;replace hC:=hH.at w (And.intro I.ai I.ai);refine RH 0 E I hH hC λa E=>?_;refine CL 0 E I (Jj I (hg bD oc)) λa w E I=>?_;replace hC:=hH.at w (And.intro I.ai I.ai);refine RH 0 E I hH hC λa E=>?_;refine jv E rfl M.n4 M.oa rfl (M.get _ _ g bad (km (g bD)) xH (I.pick (J g bad))) (by rfl) ?_;clear E I;rintro e w ⟨rfl,I⟩;refine⟨_,rfl,λa E=>?_⟩;refine RN 1 E I λa E=>?_;refine RT 0 E I ?_;exact⟨by simp[jw,bh,ea],I.sub⟩
 refine IF 3 E I (λbQ a E=>?_) λbQ a E=>?_
 ·
  refine aY 1 (λw0 V=>Rd V gl 0 (ha p aq cO t ad fr adP b.length cP aV)∧Rd V b3 0 (dP o)) [8,10,11,12] [0,1,2,3,5,6,7,9,3004,3008,1010,1011,1012,1013,14] E I λa w E I hH=>?_;obtain⟨bD,ea,oc⟩:=ob (by omega) (by omega);have Jl:=hg bD oc;have VV:=Jl;simp only[du]at VV;have jx:Rd w gl 0 (ha p aq cO t ad fr adP b.length cP aV):=I.ai;have gA:Rd w b3 0 (dP o):=I.ai;have hC:=And.intro jx gA;refine RH 8 E I hH hC λa E=>?_;refine QH E (λw hc=>ae E (hc.1 0 _ rfl)) hC λa E=>?_;refine QH E (λw hc=>ae E (hc.1 2 _ rfl)) hC λa E=>?_;refine RH 0 E I hH hC λa E=>?_;refine SS E (ae E (hC.2 2 _ rfl)) λa E=>?_;rw[ea]at E;refine RH 0 E I hH hC λa E=>?_;refine jv E rfl M.n4 M.oa rfl (M.get _ _ g bad bD oc (I.pick (J g bad))) (by rfl) ?_;clear E I;rintro e w ⟨rfl,I⟩;refine⟨_,rfl,λa E=>?_⟩;replace hC:=hH.at w (And.intro I.ai I.ai);refine RH 0 E I hH hC λa E=>?_;refine SX 0 E I (by rw[gi (by omega) (by omega)]) λa E=>?_;refine RH 0 E I hH hC λa E=>?_;refine CL 0 E I (VR I (by omega) Jl) λa w E I=>?_;refine RN 1 E I λa E=>?_;refine RT 0 E I ?_;exact⟨by simp[jw,bQ,ea],I.sub⟩
 refine IF 3 E I (λeT a E=>?_) λeT a E=>?_
 ·
  refine RN 5 E I λa E=>?_;refine SS E (gj E underlying3 underlying100) λa E=>?_;refine RN 0 E I λa E=>?_;refine SS E (gj E underlying100 underlying21) λa E=>?_;refine RT 1 E I ?_;refine⟨?_,I.sub⟩;have e:IntKind.i32.wrap (IntKind.u32.wrap fr)=hX fr:=by
   simp only[hX,IntKind.wrap,IntKind.signed,IntKind.bits];have:fr%4294967296%4294967296=fr%4294967296:=Int.emod_emod_of_dvd _ (Int.dvd_refl _);simp[this]
  simp[jw,eT,e]
 refine RN 1 E I λa E=>?_;obtain⟨bD,ea,oc⟩:=ob (by omega) (by omega);obtain⟨tz,o7,VW⟩:=mo (qX aj ao az bh bQ eT);refine bS 0 [5] [0,1,2,4,3003,1005,1006,7] E I λa w E I hH hC=>?_;refine RH 6 E I hH hC λa E=>?_;rw[ea]at E;refine jv E rfl M.n4 M.oa rfl (M.get _ _ g bad bD oc (I.pick (J g bad))) (by rfl) ?_;clear E I;rintro e w ⟨rfl,I⟩;refine⟨_,rfl,λa E=>?_⟩;refine RN 1 E I λa E=>?_;refine aY 1 (λw0 V=>Rd V gl 0 (ha p aq cO t ad fr adP b.length cP aV)∧Rd V b3 0 (dP o)) [6,8,9] [0,2,3,4,5,7,3001,3006,1008,1009,1010,11] E I λa w E I hH=>?_;have jx:Rd w gl 0 (ha p aq cO t ad fr adP b.length cP aV):=I.ai;have gA:Rd w b3 0 (dP o):=I.ai;have hC:=And.intro jx gA;refine RH 6 E I hH hC λa E=>?_;refine QH E (λw hc=>ae E (hc.2 0 _ rfl)) hC λa E=>?_;refine QH E (λw hc=>ae E (hc.1 2 _ rfl)) hC λa E=>?_;refine RH 0 E I hH hC λa E=>?_;refine SS E (ae E (hC.2 3 _ rfl)) λa E=>?_;rw[o7]at E;refine RH 0 E I hH hC λa E=>?_;refine jv E rfl M.n4 M.oa rfl (M.get _ _ g bad tz VW (I.pick (J g bad))) (by rfl) ?_;clear E I;rintro e w ⟨rfl,I⟩;refine⟨_,rfl,λa E=>?_⟩;replace hC:=hH.at w (And.intro I.ai I.ai);refine RH 0 E I hH hC λa E=>?_;refine CL 0 E I (VQ I) λa w E I=>?_;refine RN 1 E I λa E=>?_;refine RT 0 E I ?_;exact⟨by simp[jw,aj,ao,az,bh,bQ,eT,ea,o7],I.sub⟩
theorem Jm (s:ByteArray)(n:Int):du (mP s n):=by
 have hb:∀ pos,∀ x∈ef s pos,x.1<1114112:=by
  have h:∀ k pos,s.size-pos≤k→∀ x∈ef s pos,x.1<1114112:=by
   intro k
   induction k with
   | zero=>intro pos h x hx;rw[qR (by omega)]at hx;simp at hx
   | succ k ih =>
    intro pos h x hx;by_cases hp:pos<s.size
    ·rw[qQ hp]at hx;rcases List.mem_cons.1 hx with rfl | hx
     ·exact UO s pos
     ·have:=(tJ s pos).1;exact ih (ec s pos) (by rw[ec,al hp];omega) x hx
    ·rw[qR hp]at hx;simp at hx
  exact λpos=>h _ pos (bk _)
 simp only[mP,du];split
 ·cases hx:(ef s 0)[n.toNat]? with
  | none=>simp
  | some x =>
   have:=hb 0 x (bJ hx);simp only[Option.map_some,Option.getD_some];omega
 ·omega
theorem Jn (k x y:Int):du (iP k x y):=by
 unfold iP;have h1:du 1:=by simp[du]
 have h0:du 0:=by simp[du]
 repeat' split
 all_goals first | exact xv _ | exact h1 | exact h0
theorem Jo (b:List UInt8)(x:Int):du (mh b x):=by
 simp only[mh,du];split
 ·have:=(b.getD x.toNat 0).toNat_lt;omega
 ·omega
theorem Jp {m:Int}(hg:dQ g)(ho:eZ m o)(h9:o.code≠9)(fF:o.code≠10):du (jw p fr b g o):=by
 simp only[eZ,eY]at ho;have hb:o.code≠1→o.code≠15→o.code≠0→o.b.toNat<32:=λh1 h2 h3=>by omega
 have h0:o.code=0→o.b.toNat<32:=λh=>by omega
 unfold jw;split
 ·exact xv _
 ·split
  ·exact hg _ (hb (by omega) (by omega) (by omega))
  ·split
   ·exact Jo _ _
   ·split
    ·exact hg _ (xu _)
    ·split
     ·exact Jm _ _
     ·split
      ·exact xv _
      ·exact Jn _ _ _
set_option maxHeartbeats 4000000 in
theorem VX {M:xF W t ad tS fs J}(I:U W w (aa gl 336 (ha p aq cO t ad fr adP b.length cP aV)::J g bad::ay W p aq cO::L))(a7:∀ o∈p.ops,eZ p.ops.length o)(e4:p.ops[aV]?=some o)
   (aC:p.title.size≤1000000000) (cS:p.ops.length≤1000000000) (hb:b.length≤1099511627776) (hp:∀ V,U W V L→aQ V adP b.length b) :
   Calls prog 203 #[pt gl] w λe V=>∃ (g':Nat→Int) (xI:Nat) (fp r:Bool),e=.returned (.bool r)∧(fp=false→bad=false∧et p fr b g aV o=(g',xI,r))∧xI≤p.ops.length ∧
    U W V (aa gl 336 (ha p aq cO t ad fr adP b.length cP xI)::J g' fp::ay W p aq cO::L):=by
 have hg:dQ g:=M.ok _ _ g bad I.tail;have ho:=a7 o (bJ e4);have aeD:=(a8.1 e4).1;have qd:=ho;simp only[eZ,eY]at qd;have DF:o.code=9→qc o.a p.ops.length:=λh=>qc.of (by omega);have jS:o.code≠9→o.code≠0→lI o.a 32:=λh h2=>lI.of (by omega);have DG:o.code=10→qc o.b p.ops.length:=λh=>qc.of (by omega);have VY:o.code=13→lI o.b 32:=λh=>lI.of (by omega);clear qd;refine EN func203 ntmps203 rfl rfl λa E=>?_;refine bS 3 [8,11] [0,1,2,3,5,6,7,3004,3008,9,3010,1011,1012] E I λa w E I hH hC=>?_;obtain⟨kI,oo,gR,gA⟩:=I.qT aq (by omega);rw[gR]at I;replace hH:=Hd.gv I;refine RH 10 E I hH hC λa E=>?_;refine QH E (λw hc=>bR E underlying114 rfl Ty.t114 (hc.rd (vx gA e4))) hC λa E=>?_;refine RH 0 E I hH hC λa E=>?_;refine eW E rfl I Ty.t114 rfl λb3 a w E I ho=>?_;replace hC:=hC.trans ho;clear ho;refine RH 0 E I hH hC λa E=>?_;refine SA 0 E I λa w E I=>?_;refine RN 0 E I λa E=>?_;rw[← gR]at I;replace E:=E.ab [0,3];refine ST 8 E I (λa w E I=>?_) (hlt:=(by simp[ha]));rw[show ((aV:Int)+1)=((aV+1:Nat):Int) from rfl]at I;change U W w (aa gl 336 (ha p aq cO t ad fr adP b.length cP (aV+1))::_) at I;refine IF 7 E I (λaj a E=>?_) λaj a E=>?_
 ·
  refine RT 2 E I ?_;exact⟨g,aV+1,bad,false,rfl,λh=>⟨h,by rw[et,al aj]⟩,by omega,I.sub⟩
 refine IF 3 E I (λao a E=>?_) λao a E=>?_
 ·
  obtain⟨cB,dK,jT⟩:=DF ao;refine ST 5 E I (λa w E I=>?_) (hlt:=(by simp[ha]));rw[dK]at I;change U W w (aa gl 336 (ha p aq cO t ad fr adP b.length cP cB)::_) at I;refine RT 2 E I ?_;exact⟨g,cB,bad,true,rfl,λh=>⟨h,by rw[et,ag aj,al ao,dK];rfl⟩,by omega,I.sub⟩
 refine IF 3 E I (λaz a E=>?_) λaz a E=>?_
 ·
  refine RN 1 E I λa E=>?_;obtain⟨cB,dK,jT⟩:=jS ao aj;obtain⟨bD,ea,iA⟩:=DG az;refine bS 0 [5] [0,1,2,4,3003,1005,1006,7] E I λa w E I hH hC=>?_;refine RH 6 E I hH hC λa E=>?_;rw[dK]at E;refine jv E rfl M.n4 M.oa rfl (M.get _ _ g bad cB jT (I.pick (J g bad))) (by rfl) ?_;clear E I;rintro e w ⟨rfl,I⟩;refine⟨_,rfl,λa E=>?_⟩;refine RN 1 E I λa E=>?_;refine IF 0 E I (λbh a E=>?_) λbh a E=>?_
  ·
   refine ST 5 E I (λa w E I=>?_) (hlt:=(by simp[ha]));rw[ea]at I;change U W w (aa gl 336 (ha p aq cO t ad fr adP b.length cP bD)::_) at I;refine RT 2 E I ?_;exact⟨g,bD,bad,true,rfl,λh=>⟨h,by rw[et,ag aj,ag ao,al az,dK,ea,Int.toNat_natCast,al bh];rfl⟩,by omega,I.sub⟩
  refine RT 2 E I ?_;exact⟨g,aV+1,bad,true,rfl,λh=>⟨h,by rw[et,ag aj,ag ao,al az,dK,Int.toNat_natCast,ag bh]⟩,by omega,I.sub⟩
 refine IF 3 E I (λbQ a E=>?_) λbQ a E=>?_
 ·
  refine RN 1 E I λa E=>?_;obtain⟨cB,dK,jT⟩:=jS ao aj;obtain⟨bD,ea,iA⟩:=VY bQ;refine bS 0 [5] [0,1,2,4,3003,1005,1006,1007,8] E I λa w E I hH hC=>?_;refine RH 6 E I hH hC λa E=>?_;rw[dK]at E;refine jv E rfl M.n4 M.oa rfl (M.get _ _ g bad cB jT (I.pick (J g bad))) (by rfl) ?_;clear E I;rintro e w ⟨rfl,I⟩;refine⟨_,rfl,λa E=>?_⟩;refine CL 0 E I (Jj I (hg cB jT)) λa w E I=>?_;refine RN 1 E I λa E=>?_;refine aY 0 (λw0 V=>Rd V gl 0 (ha p aq cO t ad fr adP b.length cP (aV+1))∧Rd V b3 0 (dP o)) [8,10,11] [0,1,2,4,5,6,7,9,3003,12,13,3008,1010,1011,1014] E I λa w E I hH=>?_;have jx:Rd w gl 0 (ha p aq cO t ad fr adP b.length cP (aV+1)):=I.ai;have gT:Rd w b3 0 (dP o):=I.ai;have hC:=And.intro jx gT;refine RH 8 E I hH hC λa E=>?_;refine QH E (λw hc=>ae E (hc.1 2 _ rfl)) hC λa E=>?_;refine RH 2 E I hH hC λa E=>?_;refine QH E (λw hc=>ae E (hc.1 2 _ rfl)) hC λa E=>?_;refine RH 0 E I hH hC λa E=>?_;refine SS E (ae E (hC.2 2 _ rfl)) λa E=>?_;rw[ea]at E;refine RH 0 E I hH hC λa E=>?_;refine jv E rfl M.n4 M.oa rfl (M.get _ _ g bad bD iA (I.pick (J g bad))) (by rfl) ?_;clear E I;rintro e w ⟨rfl,I⟩;refine⟨_,rfl,λa E=>?_⟩;replace hC:=hH.at w (And.intro I.ai I.ai);refine RH 0 E I hH hC λa E=>?_;refine jv E rfl M.zN M.vj rfl (M.set _ _ g bad (km (g cB)) (g bD) (xu _) (hg bD iA) (I.pick (J g bad))) (by rfl) ?_;clear E I;rintro e w ⟨g',fp,rfl,xz,I⟩;refine⟨_,rfl,λa E=>?_⟩;refine RT 2 E I ?_;refine⟨g',aV+1,fp,true,rfl,λh=>?_,by omega,I.sub⟩;obtain⟨_,h1,h2⟩:=xz.resolve_left (λh3=>by rw[h]at h3;cases h3.1);exact⟨h1,by rw[et,ag aj,ag ao,ag az,al bQ,dK,ea,Int.toNat_natCast,Int.toNat_natCast,h2]⟩
 refine aY 0 (λw0 V=>Rd V gl 0 (ha p aq cO t ad fr adP b.length cP (aV+1))∧Rd V b3 0 (dP o)) [5,7,8] [0,1,2,4,6,3003,9,10,3005,1007,1008,1011] E I λa w E I hH=>?_;obtain⟨cB,dK,jT⟩:=jS ao aj;have jx:Rd w gl 0 (ha p aq cO t ad fr adP b.length cP (aV+1)):=I.ai;have gT:Rd w b3 0 (dP o):=I.ai;have hC:=And.intro jx gT;refine RH 5 E I hH hC λa E=>?_;refine QH E (λw hc=>ae E (hc.1 2 _ rfl)) hC λa E=>?_;refine RH 2 E I hH hC λa E=>?_;refine QH E (λw hc=>ae E (hc.2 1 _ rfl)) hC λa E=>?_;rw[dK]at E;refine RH 0 E I hH hC λa E=>?_;refine SS E (bR E underlying114 rfl Ty.t114 (hC.2)) λa E=>?_;refine RH 0 E I hH hC λa E=>?_;refine CL 0 E I (VU (M:=M) (L:=aa b3 114 (dP o)::ay W p aq cO::L) (I.sub (M:=aa gl 336 (ha p aq cO t ad fr adP b.length cP (aV+1))::J g bad::aa b3 114 (dP o)::ay W p aq cO::L)) ho aj ao az bQ aC hb (λV h=>hp V h.sub)) λa w E I=>?_;replace hC:=hH.at w (And.intro I.ai I.ai);refine RH 0 E I hH hC λa E=>?_;refine jv E rfl M.zN M.vj rfl (M.set _ _ g bad cB (jw p fr b g o) jT (Jp hg ho ao az) (I.pick (J g bad))) (by rfl) ?_;clear E I;rintro e w ⟨g',fp,rfl,xz,I⟩;refine⟨_,rfl,λa E=>?_⟩;refine RT 2 E I ?_;refine⟨g',aV+1,fp,true,rfl,λh=>?_,by omega,I.sub⟩;obtain⟨_,h1,h2⟩:=xz.resolve_left (λh3=>by rw[h]at h3;cases h3.1);exact⟨h1,by rw[et,ag aj,ag ao,ag az,ag bQ,dK,Int.toNat_natCast,h2]⟩
theorem DH {n:Nat}(h:p.ops[aV]?=some o):p7 p fr b (n+1) g aV=if (et p fr b g aV o).2.2 then p7 p fr b n (et p fr b g aV o).1 (et p fr b g aV o).2.1 else (et p fr b g aV o).1:=by
 rw[p7];simp only[h]
theorem DI {n:Nat}(h:p.ops.length≤aV):p7 p fr b n g aV=g:=by
 cases n with
 | zero=>rfl
 | succ n=>rw[p7];simp only[iw h]
set_option maxHeartbeats 4000000 in
theorem Jq {M:xF W t ad tS fs J}(I:U W w (J g bad::ay W p aq cO::L))(a7:db p)(aC:p.title.size≤1000000000)(hb:b.length≤1099511627776)(hp:∀ V,U W V L→aQ V adP b.length b) :
   Calls prog 174 #[.agg (bw p aq cO).toArray,.iface t (.pointer (some ad)),.int .i64 fr,.slice adP b.length cP] w λe V=>∃ (g':Nat→Int) (fp:Bool) (n:Int),e=.returned (.int .i64 n)∧(fp=false→bad=false∧g'=e0 p fr b g) ∧
    U W V (J g' fp::ay W p aq cO::L):=by
 have cS:p.ops.length≤64:=a7.1.2.2.1;refine EN func174 ntmps174 rfl rfl λa E=>?_;refine BX 1 E I λb4 a w E I=>?_;change U W w (aa b4 45 (bw p aq cO)::_) at I;refine RN 6 E I λa E=>?_;replace E:=E.aK 13;refine aR 1 E I (DE (I.pick (ay W p aq cO)) aC (by omega)) λr a w E ⟨hr,I⟩=>?_;rw[hr.2 a7]at E;refine RN 1 E I λa E=>?_;rw[show (!true)=false from rfl]at E;refine RN 1 E I λa E=>?_;replace E:=E.aK 17;refine RN 3 E I λa E=>?_;change Fr a 42 ((18,.agg (List.toArray [.string p.title,.slice aq p.ops.length cO]))::_) at E;refine BX 4 E I λxJ a w E I=>?_;change U W w (aa xJ 336 (ha p aq cO t ad fr adP b.length cP 0)::_) at I;refine RN 4 E I λa E=>?_;refine aP (λμ a w=>∃ (n aV:Nat) (g':Nat→Int) (fp:Bool),(μ=200-n∧n≤200∧aV≤p.ops.length∧(fp=false→bad=false∧p7 p fr b (200-n) g' aV=e0 p fr b g))∧Fr a 42 [(4,pt b4),(9,pt xJ),(10,.int .i64 n)]∧U W w (aa xJ 336 (ha p aq cO t ad fr adP b.length cP aV)::aa b4 45 (bw p aq cO)::J g' fp::ay W p aq cO::L)) (200) (⟨0,0,g,bad,⟨by simp,by simp,by simp,λh=>⟨h,rfl⟩⟩,E.ab [4,9,10],I.sub⟩) ?_;clear E I;rintro μ a w ⟨n,aV,g',fp,⟨rfl,hn,e4,oe⟩,E,I⟩;refine bS 2 [8,9] [0,1,2,3,4,5,7,3006,1008,1009,10,11] E I λa w E I hH hC=>?_;refine RH 3 E I hH hC λa E=>?_;refine E.by (s:=26) (λbA E=>?_) (λbA E=>?_)
 ·
  refine RH 9 E I hH hC λa E=>?_;refine IF 0 E I (λao a E=>?_) λao a E=>?_
  ·
   obtain⟨o,ho⟩:∃ o,p.ops[aV]?=some o:=⟨_,aF (by omega)⟩;have aT:=DH (p:=p) (fr:=fr) (b:=b) (g:=g') (n:=200-(n+1)) ho;rw[show 200-(n+1)+1=200-n from by omega]at aT;refine jJ 6 E I (VX (M:=M) (L:=aa b4 45 (bw p aq cO)::L) (I.sub (M:=aa xJ 336 (ha p aq cO t ad fr adP b.length cP aV)::J g' fp::ay W p aq cO::aa b4 45 (bw p aq cO)::L)) a7.2 ho aC (by omega) hb (λV h=>hp V h.tail)) ?_;clear E I;rintro e w ⟨kH,xI,zO,r2,rfl,fN,VZ,I⟩;refine⟨_,rfl,λa E=>?_⟩;refine IF 1 E I (λaz a E=>?_) λaz a E=>?_
   ·
    have vo:r2=false:=by simpa using az
    have DJ:zO=false→bad=false∧kH=e0 p fr b g:=λh=>by
     obtain⟨h1,h2⟩:=fN h;obtain⟨h3,h4⟩:=oe h1;refine⟨h3,?_⟩;rw[aT,h2,vo]at h4;exact h4
    refine RT 3 E I ?_;exact⟨kH,zO,_,rfl,DJ,I.sub⟩
   have tR:r2=true:=by simpa using az
   refine RN 0 E I λa E=>?_;refine⟨200-(n+1),by omega,n+1,xI,kH,zO,⟨rfl,by omega,VZ,λh=>?_⟩,E.ab [4,9,10],I.sub⟩;obtain⟨h1,h2⟩:=fN h;obtain⟨h3,h4⟩:=oe h1;refine⟨h3,?_⟩;rw[aT,h2,tR]at h4;exact h4
  refine RT 3 E I ?_;refine⟨g',fp,_,rfl,λh=>?_,I.sub⟩;obtain⟨h3,h4⟩:=oe h;rw[DI (by omega)]at h4;exact⟨h3,h4⟩
 have o8:n=200:=by omega
 refine RH 9 E I hH hC λa E=>?_;refine RT 4 E I ?_;refine⟨g',fp,_,rfl,λh=>?_,I.sub⟩;obtain⟨h3,h4⟩:=oe h;rw[o8]at h4;exact⟨h3,h4⟩
end
end
section
def distinct:List Nat→Nat
 | []=>0
 | x::l=>distinct l+if x∈l then 0 else 1
def kT (l:List aD):List Nat:=l.flatMap λx=>[x.p 0,x.p 1,x.p 2,x.p 3]
theorem V0 {l:List aD}{p:Nat}:p∈kT l↔0<cR l p:=by
 induction l with
 | nil=>simp[kT,cR]
 | cons x l ih =>
  rw[sf];have h1:kT (x::l)=[x.p 0,x.p 1,x.p 2,x.p 3]++kT l:=rfl;rw[h1,eR,ih];constructor
  ·rintro (h | h)
   ·have h2 : 0 < g7 x p := Ip.2 (by
     simp at h;rcases h with h | h | h | h
     ·exact⟨0,by omega,h.symm⟩
     ·exact⟨1,by omega,h.symm⟩
     ·exact⟨2,by omega,h.symm⟩
     ·exact⟨3,by omega,h.symm⟩)
    omega
   ·omega
  ·intro h;by_cases h2:0<g7 x p
   ·left;obtain⟨k,hk,rfl⟩:=Ip.1 h2;rcases (by omega:k=0∨k=1∨k=2∨k=3) with rfl | rfl | rfl | rfl <;> simp
   ·right;omega
theorem V1 (n:Nat)(f:Nat→Bool)(x:Nat)(hx:x<n)(h0:f x=false):(List.range n).countP (λp=>p==x||f p)=(List.range n).countP f+1:=by
 induction n with
 | zero=>omega
 | succ n ih =>
  rw[range_succ,List.countP_append,List.countP_append,List.countP_singleton,List.countP_singleton];by_cases hn:x=n
  ·subst hn;have:(List.range x).countP (λp=>p==x||f p)=(List.range x).countP f:=countP_congr λp hp=>by
    have:p<x:=mem_range.1 hp;have h2:(p==x)=false:=by simp;omega
    simp[h2]
   rw[this,h0];simp
  ·have h2:(n==x)=false:=by simp;omega
   rw[ih (by omega),h2];simp;omega
theorem Jr (n:Nat):∀ l:List Nat,(∀ p∈l,p<n)→(List.range n).countP (λp=>decide (p∈l))=distinct l
 | [],_=>by simp[distinct]
 | x::l,h=>by
  have ih:=Jr n l λp hp=>h p (gM _ hp);rw[distinct,← ih];by_cases hx:x∈l
  ·rw[al hx,Nat.add_zero];refine countP_congr λp _=>?_;simp only[List.mem_cons,decide_eq_true_eq];exact⟨λhp=>by rcases hp with rfl | hp;exact hx;exact hp,λhp=>.inr hp⟩
  ·rw[ag hx];have:=V1 n (λp=>decide (p∈l)) x (h x mem_cons_self) (by simp[hx]);rw[← this];refine countP_congr λp _=>?_;simp
theorem V2 {A:Sn}(h:∀ x∈A.au,∀ k,k<4→x.p k<A.room):A.used=distinct (kT A.au):=by
 rw[← Jr A.room (kT A.au) (λp hp=>?_)]
 ·rw[Sn.used];refine countP_congr λp _=>?_;simp[V0]
 ·simp only[kT,List.mem_flatMap]at hp;obtain⟨x,hx,hp⟩:=hp;simp at hp;rcases hp with rfl | rfl | rfl | rfl <;> exact h x hx _ (by omega)
section
variable {W w:World}{L R:List SP}{q r:Nat}{A:Sn}
class vF (L:List SP)(q:Nat)(r:outParam Nat)(A:outParam Sn)(R:outParam (List SP)):Prop where perm:L.Perm (ax q r A::R)
instance vF.head {L q r A}:vF (ax q r A::L) q r A L:=⟨List.Perm.refl _⟩
instance (priority:=low) vF.tail {B L q r A R}[h:vF L q r A R]:vF (B::L) q r A (B::R):=⟨(List.Perm.cons B h.perm).trans (List.Perm.swap _ _ _)⟩
theorem U.store (I:U W w L)(q:Nat)[k:vF L q r A R]:U W w (ax q r A::R):=I.perm k.perm
theorem ax.facts (I:U W w (ax q r A::L)):WF A∧∀ x∈A.au,∀ k,k<4→x.p k<A.room:=by
 obtain⟨b,m,ps,xs,h1,hw,hr,I⟩:=ax.open I;exact⟨hw,λx hx k hk=>by rw[← hr.len];exact (hr.live hx hk).1⟩
theorem ax.used (I:U W w (ax q r A::L)):A.used=distinct (kT A.au):=V2 (ax.facts I).2
end
end
section
theorem V3 (l:List aD)(p:Nat):(kT l).count p=cR l p:=by
 induction l with
 | nil=>rfl
 | cons x l ih =>
  have h1:kT (x::l)=[x.p 0,x.p 1,x.p 2,x.p 3]++kT l:=rfl;rw[h1,List.count_append,ih,sf,tB];simp only[List.count_cons,List.count_nil,beq_iff_eq];omega
theorem Jt (p:Nat):∀ l:List Nat,distinct l+(l.count p-1)≤l.length
 | []=>by simp[distinct]
 | x::l=>by
  have ih:=Jt p l;rw[distinct,List.count_cons,fc];by_cases hx:x=p
  ·subst hx;by_cases hm:x∈l
   ·have:=List.count_pos_iff.2 hm;simp[hm];omega
   ·have:=List.count_eq_zero.2 hm;simp[hm];omega
  ·have h1:(x==p)=false:=by simpa using hx
   simp only[h1,Bool.false_eq_true,if_false,Nat.add_zero];split <;> omega
theorem V4 (l:List aD):(kT l).length=4*l.length:=by
 induction l with
 | nil=>rfl
 | cons x l ih =>
  have h1:kT (x::l)=[x.p 0,x.p 1,x.p 2,x.p 3]++kT l:=rfl;rw[h1,aM,ih,fc];simp;omega
section
variable {W w:World}{L:List SP}{q r i bc:Nat}{A:Sn}{x px:aD}
theorem ax.shared (I:U W w (ax q r A::L)){p:Nat}(h:1<cR A.au p):A.used<4*A.au.length:=by
 have h1:=Jt p (kT A.au);rw[← ax.used I,V3,V4]at h1;omega
theorem V5 {c:Nat}{v:Int}(I:U W w (ax q r A::L))(hx:A.au[i]?=some x)(hc:c<32) :
   Calls prog 346 #[pt q,.int .i64 x.id,.int .i64 c,.int .i32 v] w λe V=>∃ (ok:Bool) (p':Nat→Nat),e=.returned (.bool ok)∧(ok=false→¬ 4*A.au.length≤A.room) ∧
    ((ok=true∧U W V (ax q r { A with au:=A.au.set i { x with g:=ck x.g c v,p:=p' } }::L))∨(ok=false∧U W V (ax q r A::L))):=by
 have og:c/8<4:=by omega
 by_cases h1:1<cR A.au (x.p (c/8))
 ·by_cases hu:A.used<A.room
  ·exact (Uc (v:=v) I hx hc h1 hu).mono λe V ⟨f,h2,_,I⟩=>⟨true,λj=>if j=c/8 then f else x.p j,h2,λh=>(by cases h),.inl ⟨rfl,I⟩⟩
  ·have hsh:=ax.shared I h1;exact (Ud (v:=v) I hx hc h1 (by omega)).mono λe V ⟨h2,I⟩=>⟨false,x.p,h2,λ_=>by omega,.inr ⟨rfl,I⟩⟩
 ·have h3 : cR A.au (x.p (c / 8)) = 1 := by
   have h4:=tC (bJ hx) (x.p (c/8));have h5:=se (x:=x) og;omega
  exact (Ua (v:=v) I hx hc h3).mono λe V ⟨h2,I⟩=>⟨true,x.p,h2,λh=>(by cases h),.inl ⟨rfl,I⟩⟩
theorem V6 {g:Nat→Int}{c:Nat}{v:Int}(h:dQ g)(hv:du v):dQ (ck g c v):=λj hj=>by
 simp only[ck];split
 ·exact hv
 ·exact h j hj
def Jw (q r bc i:Nat)(A:Sn)(px:aD)(g:Nat→Int)(bad:Bool):SP:=λh=>∃ p':Nat→Nat,(dQ g∧(bad=true→¬ 4*A.au.length≤A.room)) ∧
 cn [aa bc 307 [pt q,.int .i64 px.id,.bool bad],ax q r { A with au:=A.au.set i ⟨px.id,px.refs,g,p'⟩ }] h
theorem Jw.open {g:Nat→Int}{bad:Bool}(I:U W w (Jw q r bc i A px g bad::L)):∃ p':Nat→Nat,(dQ g∧(bad=true→¬ 4*A.au.length≤A.room)) ∧
   U W w (aa bc 307 [pt q,.int .i64 px.id,.bool bad]::ax q r { A with au:=A.au.set i ⟨px.id,px.refs,g,p'⟩ }::L):=by
 obtain⟨p',h1,h2⟩:=I.jt (ι:=Nat→Nat) (p:=λ_=>dQ g∧(bad=true→¬ 4*A.au.length≤A.room)) (B:=λp' h=>cn [aa bc 307 [pt q,.int .i64 px.id,.bool bad],ax q r { A with au:=A.au.set i ⟨px.id,px.refs,g,p'⟩ }] h) (λh ⟨p',h1,h2⟩=>⟨p',h1,h2⟩);exact⟨p',h1,h2.open λ_ h=>h⟩
theorem Jw.close {g:Nat→Int}{bad:Bool}{p':Nat→Nat}(I:U W w (aa bc 307 [pt q,.int .i64 px.id,.bool bad]::ax q r { A with au:=A.au.set i ⟨px.id,px.refs,g,p'⟩ }::L))(h1:dQ g)(h2:bad=true→¬ 4*A.au.length≤A.room) :
   U W w (Jw q r bc i A px g bad::L):=U.shut (M:=[_,_]) I (λ_ x=>⟨p',⟨h1,h2⟩,x⟩)
theorem V7 {g:Nat→Int}{bad:Bool}{c:Nat}(hx:i<A.au.length)(hc:c<32)(I:U W w (Jw q r bc i A px g bad::L)) :
   Calls prog 353 (List.toArray [pt bc,.int .i64 c]) w λe V=>e=.returned (.int .i32 (g c))∧U W V (Jw q r bc i A px g bad::L):=by
 obtain⟨p',⟨h1,h2⟩,I⟩:=Jw.open I;refine EN func353 ntmps353 rfl rfl λa E=>?_;refine bS 3 [7] [0,1,2,4,5,6,8,3003,1007,1009,10,11,12,13,14] E I λa w E I hH hC=>?_;refine RH 9 E I hH hC λa E=>?_;refine CL 0 E I (Iw (i:=i) (x:=⟨px.id,px.refs,g,p'⟩) (I.store q) (by simp[hx]) hc) λa w E I=>?_;refine RN 5 E I λa E=>?_;refine RT 3 E I ?_;exact⟨rfl,Jw.close (p':=p') I.sub h1 h2⟩
theorem V8 {g:Nat→Int}{bad:Bool}{c:Nat}{v:Int}(hx:i<A.au.length)(hc:c<32)(hv:du v)(I:U W w (Jw q r bc i A px g bad::L)) :
   Calls prog 354 (List.toArray [pt bc,.int .i64 c,.int .i32 v]) w λe V=>∃ (g':Nat→Int) (fp:Bool),e=.returned (.tuple #[])∧((fp=true∧g'=g)∨(fp=false∧bad=false∧g'=ck g c v))∧U W V (Jw q r bc i A px g' fp::L):=by
 obtain⟨p',⟨h1,h2⟩,I⟩:=Jw.open I;refine EN func354 ntmps354 rfl rfl λa E=>?_;refine bS 0 [13] [0,1,2,3,1004,5,6,7,8,10,11,12,14,15,3009,1013,1016,17,18,19,20,1021] E I λa w E I hH hC=>?_;refine RH 6 E I hH hC λa E=>?_;refine E.by (s:=11) (λiQ E=>?_) (λiQ E=>?_)
 ·
  refine RH 15 E I hH hC λa E=>?_;refine ST 0 E I (λa w E I=>?_);refine RT 0 E I ?_;exact⟨g,true,rfl,.inl ⟨rfl,rfl⟩,Jw.close (p':=p') I.sub h1 (λ_=>h2 iQ)⟩
 refine RH 10 E I hH hC λa E=>?_;refine a6 0 E I (V5 (i:=i) (x:=⟨px.id,px.refs,g,p'⟩) (v:=v) (I.store q) (by simp[hx]) hc) λok p2 a w E ⟨dt,V9⟩=>?_;obtain⟨II,I⟩:(ok=ok)∧U W w (ax q r { A with au:=A.au.set i ⟨px.id,px.refs,if ok then ck g c v else g,if ok then p2 else p'⟩ }::aa bc 307 [pt q,.int .i64 px.id,.bool bad]::L):=by
  refine⟨rfl,?_⟩;rcases V9 with ⟨rfl,I⟩ | ⟨rfl,I⟩
  ·simp only[set_set]at I;exact I
  ·exact I
 refine ST 4 E I (λa w E I=>?_);refine RT 0 E I ?_;refine⟨if ok then ck g c v else g,!ok,rfl,?_,Jw.close (p':=if ok then p2 else p') I.sub ?_ (λh=>?_)⟩
 ·cases ok
  ·exact .inl ⟨rfl,rfl⟩
  ·exact .inr ⟨rfl,iQ,rfl⟩
 ·cases ok
  ·exact h1
  ·exact V6 h1 hv
 ·have:=dt (by simpa using h);simpa using this
theorem Wa (hx:i<A.au.length):xF W 305 ⟨bc,0,none⟩ 353 354 (Jw q r bc i A px) where
 n4:=λad w=>by kernel_rfl
 oa:=(by kernel_rfl)
 zN:=λad w=>by kernel_rfl
 vj:=(by kernel_rfl)
 ok:=λw L g bad h=>by obtain⟨_,⟨h1,_⟩,_⟩:=Jw.open h;exact h1
 get:=λw L g bad c hc h=>V7 hx hc h
 set:=λw L g bad c v hc hv h=>V8 hx hc hv h
end
end
section
abbrev cx (p:Pr)(aq:Option Addr)(cO tq jq sq:Nat)(k:Wk):List Value :=
 [.string p.title,.slice aq p.ops.length cO,pt tq,pt jq,pt sq,.bool k.busy,.int .i64 k.jb,.int .i64 k.je,.int .i64 k.x,.int .i64 k.done,.bool k.mi]
section
variable {W w:World}{L:List SP}{tq jq sq r wb i kk cO:Nat}{aq:Option Addr}{A:Sn}{T:Tr}{J:Js}{k:Wk}{p:Pr}{x:Br}{px:aD}
theorem Ju (I:U W w (aa wb 247 (cx p aq cO tq jq sq k)::L)) :
   Calls prog 184 #[pt wb] w λe V=>e=.returned (.bool k.busy)∧U W V (aa wb 247 (cx p aq cO tq jq sq k)::L):=by
 refine EN func184 ntmps184 rfl rfl λa E=>?_;refine RN 6 E I λa E=>?_;replace E:=E.dX 5;refine RT 6 E I ?_;exact⟨rfl,I⟩
theorem xK (I:U W w (aa wb 247 (cx p aq cO tq jq sq k)::ax sq r A::L))(hb:k.busy=true) :
   Calls prog 145 #[pt wb] w λe V=>e=.returned (.bool true)∧U W V (aa wb 247 (cx p aq cO tq jq sq { k with busy:=false })::ax sq r (A.eA k.x)::L):=by
 refine EN func145 ntmps145 rfl rfl λa E=>?_;refine CL 5 E I (Ju I) λa w E I=>?_;rw[hb]at E;refine RN 1 E I λa E=>?_;replace E:=E.aK 5;refine bS 2 [7] [0,1,2,4,5,6,3003,1007,1008] E I λa w E I hH hC=>?_;refine RH 8 E I hH hC λa E=>?_;refine aR 0 E I (zD (I.store sq)) λv a w E I=>?_;refine ST 4 E I (λa w E I=>?_) (hlt:=(by simp[cx]));change U W w (aa wb 247 (cx p aq cO tq jq sq { k with busy:=false })::_) at I;refine RT 2 E I ?_;exact⟨rfl,I.sub⟩
theorem Jx (I:U W w (aa wb 247 (cx p aq cO tq jq sq k)::L))(hb:k.busy=false) :
   Calls prog 145 #[pt wb] w λe V=>e=.returned (.bool false)∧U W V (aa wb 247 (cx p aq cO tq jq sq k)::L):=by
 refine EN func145 ntmps145 rfl rfl λa E=>?_;refine CL 5 E I (Ju I) λa w E I=>?_;rw[hb]at E;refine RN 1 E I λa E=>?_;replace E:=E.dX 5;refine RT 3 E I ?_;exact⟨rfl,I⟩
theorem zP {id:Int}(I:U W w (Tree tq sq T::L)) :
   Calls prog 143 #[pt tq,.int .i64 id] w λe V=>∃ (x:Br) (ad:Option Addr) (c:Nat) (ok:Bool),e=.returned (.tuple #[.agg (cg x ad c).toArray,.bool ok])∧((ok=true∧x∈T.l∧(x.id:Int)=id)∨(ok=false∧∀ y∈T.l,(y.id:Int)≠id)) ∧
    U W V (cd ad x.ak.length c x.ak::Tree tq sq T::L):=by
 by_cases h:∃ x∈T.l,(x.id:Int)=id
 ·obtain⟨x,hx,rfl⟩:=h;obtain⟨k,hk⟩:=jM.1 hx;exact (xm I hk).mono λe V ⟨ad,c,h1,I⟩=>⟨x,ad,c,true,h1,.inl ⟨rfl,hx,rfl⟩,I⟩
 ·have hn:∀ y∈T.l,(y.id:Int)≠id:=λy hy e=>h ⟨y,hy,e⟩;exact (Uy I hn).mono λe V ⟨h1,I⟩=>⟨⟨0,0,[],0,0⟩,none,0,false,h1,.inr ⟨rfl,hn⟩,cd.nil I⟩
theorem Wb {id:Nat}(I:U W w (ax sq r A::L))(hx:A.au[i]?=some px)(bT:px.id=id)(hb:A.n+1<1099511627776) :
   Calls prog 181 #[pt sq,.int .i64 id] w λe V=>e=.returned (.tuple #[.int .i64 ((A.last+1:Nat):Int),.bool true])∧U W V (ax sq r (A.add px.g px.p)::L):=by
 subst bT;exact Iz I hx hb
theorem We {d:Nat}{id:Nat}(I:U W w (Tree tq sq T::ax sq r A::L))(hx:T.l[kk]?=some x)(ki:d≤x.ak.length)(hp:A.au[i]?=some px)(bT:px.id=id) :
   Calls prog 186 #[pt tq,.int .i64 x.id,.int .i64 d,.int .i64 id] w λe V=>e=.returned (.bool (decide (x.done<d))) ∧
    ((x.done<d∧U W V (Tree tq sq (T.iz kk x d id)::ax sq r (A.eA x.snap)::L))∨(d≤x.done∧U W V (Tree tq sq T::ax sq r A::L))):=by
 subst bT;by_cases h:x.done<d
 ·exact (UF I hx h ki hp).mono λe V ⟨h1,I⟩=>⟨by rw[h1,dq h],.inl ⟨h,I⟩⟩
 ·exact (UD (d:=(d:Int)) (i:=i) (px:=px) I hx (.inl (by omega))).mono λe V ⟨h1,I⟩=>⟨by rw[h1,bq h],.inr ⟨by omega,I⟩⟩
theorem Wf {A:Sn}{i:Nat}{px:aD}{g:Nat→Int}{p':Nat→Nat}(hA:WF A)(hB:WF { A with au:=A.au.set i ⟨px.id,px.refs,g,p'⟩ })(hi:A.au[i]?=some px)(hr:px.refs=1) :
   ({ A with au:=A.au.set i ⟨px.id,px.refs,g,p'⟩ }:Sn).eA px.id=A.eA px.id:=by
 have hl:=(a8.1 hi).1;rw[xr hA hi,xr (px:=⟨px.id,px.refs,g,p'⟩) hB (i:=i) (by simp[hl])];simp[Sn.drop,hr,eraseIdx_set_eq]
theorem Wg (I:U W w (aa wb 247 (cx p aq cO tq jq sq k)::Tree tq sq T::ax sq r A::bK jq J::L))(hb:k.busy=false)(Wh:∀ x∈T.l,∃ (i:Nat) (px:aD),A.au[i]?=some px∧px.id=x.snap)(hn:A.n+1<1099511627776) :
   Calls prog 142 #[pt wb] w λe V=>∃ (z:Bool) (A':Sn) (J':Js) (k':Wk),e=.returned (.bool z)∧lh p A T J k z A' T J' k' ∧
    U W V (aa wb 247 (cx p aq cO tq jq sq k')::Tree tq sq T::ax sq r A'::bK jq J'::L):=by
 refine EN func142 ntmps142 rfl rfl λa E=>?_;refine CL 7 E I (Ve (I.tL jq)) λa w E I=>?_;refine AL 3 E I λb3 a w E I=>?_;refine SA 0 E I λa w E I=>?_;refine IF 5 E I (λaj a E=>?_) λaj a E=>?_
 ·
  obtain rfl:J=[]:=by simpa using aj
  change U W w (aa b3 245 [.int .i64 0,.int .i64 0]::bK jq []::_) at I;refine RT 2 E I ?_;exact⟨false,A,[],k,rfl,.idle hb rfl,I.sub⟩
 obtain⟨j,J',rfl⟩:∃ j J',J=j::J':=by
  cases J with
  | nil=>simp at aj
  | cons j J'=>exact⟨j,J',rfl⟩
 change U W w (aa b3 245 [.int .i64 j.1,.int .i64 j.2]::bK jq J'::_) at I;replace E:=E.ab [0,3];clear aj;refine RN 0 E I λa E=>?_;refine cc (M:=λa w=>∃ (b5:Nat) (x:Br) (ad:Option Addr) (c:Nat) (ok:Bool),((ok=true∧x∈T.l∧(x.id:Int)=j.1)∨(ok=false∧∀ y∈T.l,(y.id:Int)≠j.1))∧Fr a 85 [(0,pt wb),(3,pt b3),(5,pt b5),(6,.bool ok)]∧U W w (aa b5 238 (cg x ad c)::aa b3 245 [.int .i64 j.1,.int .i64 j.2]::bK jq J'::aa wb 247 (cx p aq cO tq jq sq k)::Tree tq sq T::ax sq r A::L)) ?_ ?_
 ·
  refine aY 0 (λw0 V=>Rd V wb 0 (cx p aq cO tq jq sq k)∧Rd V b3 0 [.int .i64 j.1,.int .i64 j.2]) [5,10] [0,1,2,4,3003,3005,2006,7,8,9,1010,1011,12] E I λa w E I hH=>?_;have hC:=hH.at w (And.intro I.ai I.ai);refine RH 4 E I hH hC λa E=>?_;refine QH E (λw hc=>ae E (hc.1 2 _ rfl)) hC λa E=>?_;refine QH E (λw hc=>ae E (hc.2 0 _ rfl)) hC λa E=>?_;refine RH 0 E I hH hC λa E=>?_;refine DN [(6,[7,8,9,1010,1011,12]),(10,[1006,7,8,9,1011,12])] (by kernel_rfl) rfl ⟨⟨_,rfl,?_⟩,⟨_,rfl,?_⟩,trivial⟩
  ·
   refine RH 0 E I hH hC λa E=>?_;refine jJ 0 E I (zP (id:=j.1) (I.tree tq)) ?_;clear E I;rintro e w ⟨x,ad,c,ok,rfl,dt,I⟩;refine⟨_,rfl,λa E=>?_⟩;refine RN 3 E I λa E=>?_;refine eW E rfl I Ty.t238 rfl λb5 a w E I ho=>?_;clear ho;replace hC:=hH.at w (And.intro I.ai I.ai);refine RH 0 E I hH hC λa E=>?_;refine SA 0 E I λa w E I=>?_;refine RN 1 E I λa E=>?_;exact⟨_,x,ad,c,ok,dt,E.ab [0,3,5,6],I.sub⟩
  refine RH 0 E I hH hC λa E=>?_;refine eW E rfl I Ty.t238 rfl λb5 a w E I ho=>?_;clear ho;replace hC:=hH.at w (And.intro I.ai I.ai);refine RH 0 E I hH hC λa E=>?_;refine jJ 0 E I (zP (id:=j.1) (I.tree tq)) ?_;clear E I;rintro e w ⟨x,ad,c,ok,rfl,dt,I⟩;refine⟨_,rfl,λa E=>?_⟩;refine SA 3 E I λa w E I=>?_;refine RN 1 E I λa E=>?_;exact⟨_,x,ad,c,ok,dt,E.ab [0,3,5,6],I.sub⟩
 clear E;(try clear I);rintro a w ⟨b5,x,ad,c,ok,dt,E,I⟩;refine aY 2 (λw0 V=>Rd V wb 0 (cx p aq cO tq jq sq k)∧Rd V b3 0 [.int .i64 j.1,.int .i64 j.2]∧Rd V b5 0 (cg x ad c)) [5,6,16,17] [0,2,3,4,3001,1005,1006,7,8,9,10,11,12,13,15,3014,1016,1017,18,19] E I λa w E I hH=>?_;have hC:=hH.at w ⟨I.ai,I.ai,I.ai⟩;refine RH 4 E I hH hC λa E=>?_;refine QH E (λw hc=>ae E (hc.2.1 1 _ rfl)) hC λa E=>?_;refine RH 1 E I hH hC λa E=>?_;refine CL 0 E I (zA (I.tree tq)) λa w E I=>?_;replace hC:=hH.at w ⟨I.ai,I.ai,I.ai⟩;refine RH 2 E I hH hC λa E=>?_;refine E.by (s:=36) (λeh E=>?_) (λeh E=>?_)
 ·
  refine RH 11 E I hH hC λa E=>?_;refine RT 3 E I ?_;exact⟨true,A,J',k,rfl,.xw hb rfl (.inl eh),I.sub⟩
 refine RH 4 E I hH hC λa E=>?_;refine E.by (s:=40) (λhV E=>?_) (λhV E=>?_)
 ·
  have bX:∀ y∈T.l,(y.id:Int)≠j.1:=by
   rcases dt with ⟨h,_⟩ | ⟨_,h⟩
   ·rw[h]at hV;cases hV
   ·exact h
  refine RH 7 E I hH hC λa E=>?_;refine RT 3 E I ?_;exact⟨true,A,J',k,rfl,.xw hb rfl (.inr (.inl bX)),I.sub⟩
 obtain⟨hx,bT⟩:x∈T.l∧(x.id:Int)=j.1:=by
  rcases dt with ⟨_,h⟩ | ⟨h,_⟩
  ·exact h
  ·rw[h]at hV;cases hV
 refine RH 2 E I hH hC λa E=>?_;refine QH E (λw hc=>ae E (hc.2.2 3 _ rfl)) hC λa E=>?_;refine RH 0 E I hH hC λa E=>?_;refine bC E (cI E rfl (s:=40)) (ae E (hC.2.2 2 _ rfl)) rfl λa E=>?_;refine RH 3 E I hH hC λa E=>?_;refine IF 0 E I (λao a E=>?_) λao a E=>?_
 ·
  refine RT 2 E I ?_;exact⟨true,A,J',k,rfl,.xw hb rfl (.inr (.inr ⟨x,hx,bT,by omega⟩)),I.sub⟩
 refine RN 1 E I λa E=>?_;obtain⟨i,px,g9,kU⟩:=Wh x hx;refine aY 0 (λw0 V=>Rd V wb 0 (cx p aq cO tq jq sq k)∧Rd V b5 0 (cg x ad c)) [5] [0,1,2,4,3003,1005,1006,7,8,9,10,11] E I λa w E I hH=>?_;have hC:=hH.at w ⟨I.ai,I.ai⟩;refine RH 4 E I hH hC λa E=>?_;refine QH E (λw hc=>ae E (hc.1 4 _ rfl)) hC λa E=>?_;refine RH 0 E I hH hC λa E=>?_;refine SS E (ae E (hC.2 4 _ rfl)) λa E=>?_;refine RH 0 E I hH hC λa E=>?_;refine CL 0 E I (Wb (I.store sq) g9 kU hn) λa w E I=>?_;refine RN 5 E I λa E=>?_;refine RN 4 E I λa E=>?_;replace E:=E.aK 59;refine aY 2 (λw0 V=>Rd V b3 0 [.int .i64 j.1,.int .i64 j.2]∧Rd V b5 0 (cg x ad c)) [8,11,12,13,14,15,16,17] [0,1,2,3,4,6,7,9,10,3005,3008,1011,1012,1013,1014,1015,1016,1017,18,19,1020,21,22,1023] E I λa w E I hH=>?_;have hC:=hH.at w ⟨I.ai,I.ai⟩;refine RH 9 E I hH hC λa E=>?_;refine QH E (λw hc=>bR E underlying245 rfl Ty.t245 (hc.1)) hC λa E=>?_;refine QH E (λw hc=>ae E (hc.2 3 _ rfl)) hC λa E=>?_;refine RH 0 E I hH hC λa E=>?_;refine ST 0 E I (λa w E I=>?_) (hlt:=(by simp[cx]));replace hC:=hH.at w ⟨I.ai,I.ai⟩;refine RH 2 E I hH hC λa E=>?_;refine qy E rfl I Ty.t245 (by simp[Value.oneCell']) (by simp[cx]) λa w E I=>?_;replace hC:=hH.at w ⟨I.ai,I.ai⟩;refine RH 2 E I hH hC λa E=>?_;refine ST 0 E I (λa w E I=>?_) (hlt:=(by simp[cx,cD]));replace hC:=hH.at w ⟨I.ai,I.ai⟩;refine RH 2 E I hH hC λa E=>?_;refine ST 0 E I (λa w E I=>?_) (hlt:=(by simp[cx,cD]));refine ST 2 E I (λa w E I=>?_) (hlt:=(by simp[cx,cD]));refine RN 0 E I λa E=>?_;change U W w (aa wb 247 (cx p aq cO tq jq sq ⟨true,j.1,j.2,A.last+1,x.done,false⟩)::_) at I;refine RT 2 E I ?_;exact⟨true,A.add px.g px.p,J',⟨true,j.1,j.2,A.last+1,x.done,false⟩,rfl,.Dh hb rfl eh hx bT (by omega) g9 kU,I.sub⟩
theorem Wi {ad:Option Addr}{c:Nat}(I:U W w (aa wb 247 (cx p aq cO tq jq sq k)::cd ad x.ak.length c x.ak::Tree tq sq T::ax sq r A::bK jq J::ay W p aq cO::L))
   (hb:k.busy=true) (he:k.je=T.epoch) (hx:x∈T.l) (bT:(x.id:Int)=k.jb) (eF:k.mi=false) (hi:A.au[i]?=some px) (xL:px.id=k.x) (hr:px.refs=1) (hg:dQ px.g) (hd:k.done<x.ak.length) (hf:0≤x.frm∧x.frm≤1099511627776)
   (a7:db p) (aC:p.title.size≤1000000000) (ko:J.length≤16) :
   Calls prog 146 #[pt wb,.agg (cg x ad c).toArray] w λe V=>∃ (A':Sn) (J':Js) (k':Wk),e=.returned (.tuple #[])∧lh p A T J k true A' T J' k' ∧
    U W V (aa wb 247 (cx p aq cO tq jq sq k')::Tree tq sq T::ax sq r A'::bK jq J'::ay W p aq cO::L):=by
 have kV:=Tree.wt (I.tree tq);have hA:=(ax.facts (I.store sq)).1;have zQ:=(kV.ok x hx).1;have aG:=(a8.1 hi).1;have mj:x.ak.length≤65536:=zQ.1;refine EN func146 ntmps146 rfl rfl λa E=>?_;refine BX 1 E I λb3 a w E I=>?_;change U W w (aa b3 238 (cg x ad c)::_) at I;refine bS 1 [7] [0,1,2,4,5,6,3003,1007,8,1009,10] E I λa w E I hH hC=>?_;refine RH 9 E I hH hC λa E=>?_;refine wW E rfl I rfl λeM a w E I ho=>?_;replace hC:=hC.trans ho;clear ho;change U W w (aa eM 307 [pt sq,.int .i64 k.x,.bool false]::_) at I;refine RH 1 E I hH hC λa E=>?_;refine RN 1 E I λa E=>?_;obtain⟨zs,hz,iW,I⟩:=cd.open (I.pick (cd ad x.ak.length c x.ak));obtain⟨bb,oo,rfl,dk⟩:=I.drew.bW ad (by omega);have Jy:zs.length=x.ak.length:=by rw[← hz,bg]
 have Jz:zs[k.done]?=some (zs[k.done]'(by omega)):=aF (by omega);have JA:x.ak[k.done]?=some (zs[k.done]'(by omega)).2.2:=by rw[← hz,bn,Jz];rfl
 have l8:=dk k.done _ (by rw[bn,Jz];rfl);have DK:Rd w.drew wb 0 (cx p aq cO tq jq sq k):=I.drew.ai;have lk:Rd w.drew wb 0 (bw p aq cO):=DK.part 0 2;have JB:Rd w.drew b3 0 (cg x (some ⟨bb,oo,none⟩) c):=I.drew.ai;have Wj:(zs[k.done]'(by omega)).2.2.length≤1099511627776:=zQ.2 _ (bJ JA);refine qJ 0 (λV=>Rd V wb 0 (cx p aq cO tq jq sq k)∧Rd V wb 0 (bw p aq cO)∧Rd V b3 0 (cg x (some ⟨bb,oo,none⟩) c)∧V.cell? ⟨bb,oo+k.done,none⟩=some (aL (zs[k.done]'(by omega)))) [5,7,11,12,14,18,19,20] [0,1,2,4,6,8,9,10,13,15,16,17,3003,3007,3011,3012,3014,3018,3019,3020,1005,1021] E I λa E=>?_;replace I:=I.drew;generalize w.drew=w at I l8 DK lk JB ⊢;have hC:=And.intro DK (And.intro lk (And.intro JB l8));have hH:=Hd.any (λV=>Rd V wb 0 (cx p aq cO tq jq sq k)∧Rd V wb 0 (bw p aq cO)∧Rd V b3 0 (cg x (some ⟨bb,oo,none⟩) c)∧V.cell? ⟨bb,oo+k.done,none⟩=some (aL (zs[k.done]'(by omega))));refine RH 12 E I hH hC λa E=>?_;refine QH E (λw hc=>bR E underlying45 rfl Ty.t45 (hc.2.1)) hC λa E=>?_;refine QH E (λw hc=>ae E (hc.2.2.1 1 _ rfl)) hC λa E=>?_;refine QH E (λw hc=>ae E (hc.1 9 _ rfl)) hC λa E=>?_;refine RH 1 E I hH hC λa E=>?_;refine QH E (λw hc=>ae E (hc.2.2.1 2 _ rfl)) hC λa E=>?_;refine QH E (λw hc=>ae E (hc.1 9 _ rfl)) hC λa E=>?_;refine RH 1 E I hH hC λa E=>?_;refine QH E (λw hc=>ae E (hc.2.2.2)) hC λa E=>?_;refine RH 1 E I hH hC λa E=>?_;have c6:U W w (ax sq r { A with au:=A.au.set i ⟨px.id,px.refs,px.g,px.p⟩ }::aa eM 307 [pt sq,.int .i64 k.x,.bool false]::ay W p aq cO::Sl 22 1 (some ⟨bb,oo,none⟩) x.ak.length c (zs.map aL)::ah ba zs::aa wb 247 (cx p aq cO tq jq sq k)::aa b3 238 (cg x (some ⟨bb,oo,none⟩) c)::Tree tq sq T::bK jq J::L):=by
  rw[show ({ A with au:=A.au.set i ⟨px.id,px.refs,px.g,px.p⟩ }:Sn)=A from by rw[← xk hi]];exact I.sub
 rw[← xL]at c6;have nu:=Jw.close (i:=i) (A:=A) (px:=px) (g:=px.g) (bad:=false) (p':=px.p) (c6.sub (M:=aa eM 307 [pt sq,.int .i64 px.id,.bool false]::ax sq r { A with au:=A.au.set i ⟨px.id,px.refs,px.g,px.p⟩ }::ay W p aq cO::Sl 22 1 (some ⟨bb,oo,none⟩) x.ak.length c (zs.map aL)::ah ba zs::aa wb 247 (cx p aq cO tq jq sq k)::aa b3 238 (cg x (some ⟨bb,oo,none⟩) c)::Tree tq sq T::bK jq J::L)) hg (λh=>by cases h);refine jI 0 E I (Jq (M:=Wa (W:=W) (q:=sq) (r:=r) (bc:=eM) (A:=A) (px:=px) (i:=i) aG) nu a7 aC Wj (λV h=>(U.l6 (h.sub (M:=Sl 22 1 (some ⟨bb,oo,none⟩) x.ak.length c (zs.map aL)::ah ba zs::[]))).2 _ (getElem_mem _))) λkH zO sw a w E ⟨oe,I⟩=>?_;obtain⟨p2,⟨bA,Wl⟩,I⟩:=Jw.open I;have vG:=(ax.facts (I.store sq)).1;refine RN 0 E I λa E=>?_;refine IF 6 E I (λaj a E=>?_) λaj a E=>?_
 ·
  refine CL 2 E I (xK (L:=Tree tq sq T::bK jq J::ay W p aq cO::L) (I.sub (M:=aa wb 247 (cx p aq cO tq jq sq k)::ax sq r { A with au:=A.au.set i ⟨px.id,px.refs,kH,p2⟩ }::Tree tq sq T::bK jq J::ay W p aq cO::L)) hb) λa w E I=>?_;refine RN 0 E I λa E=>?_;have vH:Rd w wb 6 [.int .i64 k.jb,.int .i64 k.je]:=(I.ai (b:=wb)).part 6 2;refine aY 1 (λw0 V=>Rd V wb 0 (cx p aq cO tq jq sq { k with busy:=false })∧Rd V wb 6 [.int .i64 k.jb,.int .i64 k.je]) [7] [0,1,2,4,5,6,3003,1007,1008] E I λa w E I hH=>?_;replace vH:Rd w wb 6 [.int .i64 k.jb,.int .i64 k.je]:=(I.ai (b:=wb)).part 6 2;have hC:=hH.at w ⟨I.ai,vH⟩;refine RH 6 E I hH hC λa E=>?_;refine QH E (λw hc=>ae E (hc.1 3 _ rfl)) hC λa E=>?_;refine RH 0 E I hH hC λa E=>?_;refine SS E (bR E underlying245 rfl Ty.t245 (hC.2)) λa E=>?_;refine RH 0 E I hH hC λa E=>?_;refine CL 0 E I (zF (I.tL jq) ko) λa w E I=>?_;change U W w (bK jq (lG J k.jb k.je)::_) at I;refine RT 0 E I ?_;refine⟨A.eA k.x,lG J k.jb k.je,{ k with busy:=false },rfl,.failed hb he hx bT eF (Wl aj),?_⟩;rw[← xL,Wf hA vG hi hr] at *;exact I.sub
 refine ST 3 E I (λa w E I=>?_) (hlt:=(by simp[cx]));change U W w (aa wb 247 (cx p aq cO tq jq sq { k with mi:=true })::_) at I;refine RT 0 E I ?_;obtain⟨_,nm⟩:=oe aj;subst nm;exact⟨_,J,{ k with mi:=true },rfl,.mi (p':=p2) hb he hx bT eF hi xL JA bA,I.sub⟩
theorem Wm {ad:Option Addr}{c:Nat}(I:U W w (aa wb 247 (cx p aq cO tq jq sq k)::Tree tq sq T::ax sq r A::bK jq J::L))
   (hb:k.busy=true) (he:k.je=T.epoch) (hx:T.l[kk]?=some x) (bT:(x.id:Int)=k.jb) (eF:k.mi=true) (hi:A.au[i]?=some px) (xL:px.id=k.x) (hd:k.done<x.ak.length) (ko:J.length≤16) :
   Calls prog 147 #[pt wb,.agg (cg x ad c).toArray] w λe V=>∃ (A':Sn) (T':Tr) (J':Js) (k':Wk),e=.returned (.tuple #[])∧lh p A T J k true A' T' J' k' ∧
    U W V (aa wb 247 (cx p aq cO tq jq sq k')::Tree tq sq T'::ax sq r A'::bK jq J'::L):=by
 have kV:=Tree.wt (I.tree tq);have eG:=bJ hx;have dO:=(a8.1 hx).1;have zQ:=(kV.ok x eG).1;have mj:x.ak.length≤65536:=zQ.1;refine EN func147 ntmps147 rfl rfl λa E=>?_;refine BX 1 E I λb3 a w E I=>?_;change U W w (aa b3 238 (cg x ad c)::_) at I;refine aY 2 (λw0 V=>Rd V wb 0 (cx p aq cO tq jq sq k)∧Rd V b3 0 (cg x ad c)) [5,9,10,14] [0,1,2,4,6,7,8,11,12,13,3003,3005,3009,3010,1014,1015] E I λa w E I hH=>?_;have hC:=hH.at w ⟨I.ai,I.ai⟩;refine RH 10 E I hH hC λa E=>?_;refine QH E (λw hc=>ae E (hc.1 2 _ rfl)) hC λa E=>?_;refine QH E (λw hc=>ae E (hc.2 0 _ rfl)) hC λa E=>?_;refine QH E (λw hc=>ae E (hc.1 9 _ rfl)) hC λa E=>?_;refine RH 1 E I hH hC λa E=>?_;refine SS E (ae E (hC.1 8 _ rfl)) λa E=>?_;refine RH 0 E I hH hC λa E=>?_;refine CL 0 E I (We (kk:=kk) (d:=k.done+1) (L:=aa wb 247 (cx p aq cO tq jq sq k)::aa b3 238 (cg x ad c)::bK jq J::L) (I.sub (M:=Tree tq sq T::ax sq r A::aa wb 247 (cx p aq cO tq jq sq k)::aa b3 238 (cg x ad c)::bK jq J::L)) hx (by omega) hi xL) λa w E JC=>?_;refine RN 0 E (U.start _) λa E=>?_;refine QO 0 E (U.start _) (λaj a E=>?_) λaj a E=>?_
 ·
  have hlt:x.done<k.done+1:=by simpa using aj
  replace I:=(JC.resolve_right (λh=>by omega)).2;refine ST 3 E I (λa w E I=>?_) (hlt:=(by simp[cx]));change U W w (aa wb 247 (cx p aq cO tq jq sq { k with busy:=false })::_) at I;refine CL 2 E I (Jx (k:={ k with busy:=false }) I rfl) λa w E I=>?_;refine RN 0 E I λa E=>?_;refine cc (M:=λa w=>∃ (b4:Nat) (ad2:Option Addr) (c2:Nat),Fr a 55 [(0,pt wb),(4,pt b4),(5,.bool true)]∧U W w (aa b4 238 (cg { x with done:=k.done+1,snap:=k.x } ad2 c2)::aa wb 247 (cx p aq cO tq jq sq { k with busy:=false })::Tree tq sq (T.iz kk x (k.done+1) k.x)::ax sq r (A.eA x.snap)::bK jq J::L)) ?_ ?_
  ·
   refine aY 0 (λw0 V=>Rd V wb 0 (cx p aq cO tq jq sq { k with busy:=false })∧Rd V b3 0 (cg x ad c)) [5,10] [0,1,2,4,3003,3005,2006,7,8,9,1010,1011,12] E I λa w E I hH=>?_;have hC:=hH.at w ⟨I.ai,I.ai⟩;refine RH 4 E I hH hC λa E=>?_;refine QH E (λw hc=>ae E (hc.1 2 _ rfl)) hC λa E=>?_;refine QH E (λw hc=>ae E (hc.2 0 _ rfl)) hC λa E=>?_;refine RH 0 E I hH hC λa E=>?_;refine DN [(6,[7,8,9,1010,1011,12]),(10,[1006,7,8,9,1011,12])] (by kernel_rfl) rfl ⟨⟨_,rfl,?_⟩,⟨_,rfl,?_⟩,trivial⟩
   ·
    refine RH 0 E I hH hC λa E=>?_;refine a6 0 E I (xm (x:={ x with done:=k.done+1,snap:=k.x }) (k:=kk) (I.tree tq) (by simp[Tr.iz,dO])) λad2 c2 a w E I=>?_;refine RN 3 E I λa E=>?_;refine eW E rfl I Ty.t238 rfl λb4 a w E I ho=>?_;clear ho;replace hC:=hH.at w (And.intro I.ai I.ai);refine RH 0 E I hH hC λa E=>?_;refine SA 0 E I λa w E I=>?_;refine RN 1 E I λa E=>?_;exact⟨_,ad2,c2,E.ab [0,4,5],I.sub⟩
   refine RH 0 E I hH hC λa E=>?_;refine eW E rfl I Ty.t238 rfl λb4 a w E I ho=>?_;clear ho;replace hC:=hH.at w (And.intro I.ai I.ai);refine RH 0 E I hH hC λa E=>?_;refine a6 0 E I (xm (x:={ x with done:=k.done+1,snap:=k.x }) (k:=kk) (I.tree tq) (by simp[Tr.iz,dO])) λad2 c2 a w E I=>?_;refine SA 3 E I λa w E I=>?_;refine RN 1 E I λa E=>?_;exact⟨_,ad2,c2,E.ab [0,4,5],I.sub⟩
  clear E;(try clear I);rintro a w ⟨b4,ad2,c2,E,I⟩;refine RN 3 E I λa E=>?_;replace E:=E.dX 38;refine IF 7 E I (λao a E=>?_) λao a E=>?_
  ·
   replace ao:((k.done+1:Nat):Int)<((x.ak.length:Nat):Int):=ao;refine aY 0 (λw0 V=>Rd V wb 0 (cx p aq cO tq jq sq { k with busy:=false })∧Rd V wb 6 [.int .i64 k.jb,.int .i64 k.je]) [7] [0,1,2,4,5,6,3003,1007,1008] E I λa w E I hH=>?_;have vH:Rd w wb 6 [.int .i64 k.jb,.int .i64 k.je]:=(I.ai (b:=wb)).part 6 2;have hC:=hH.at w ⟨I.ai,vH⟩;refine RH 6 E I hH hC λa E=>?_;refine QH E (λw hc=>ae E (hc.1 3 _ rfl)) hC λa E=>?_;refine RH 0 E I hH hC λa E=>?_;refine SS E (bR E underlying245 rfl Ty.t245 (hC.2)) λa E=>?_;refine RH 0 E I hH hC λa E=>?_;refine CL 0 E I (zF (I.tL jq) ko) λa w E I=>?_;change U W w (bK jq (lG J k.jb k.je)::_) at I;refine RT 0 E I ?_;refine⟨_,_,if k.done+1<x.ak.length then lG J k.jb k.je else J,{ k with busy:=false },rfl,.iz (x:=x) (kk:=kk) hb he hx bT eF hlt (by omega),?_⟩;rw[al (by omega)];exact I.sub
  replace ao:((x.ak.length:Nat):Int)≤((k.done+1:Nat):Int):=ao;refine RT 0 E I ?_;refine⟨_,_,if k.done+1<x.ak.length then lG J k.jb k.je else J,{ k with busy:=false },rfl,.iz (x:=x) (kk:=kk) hb he hx bT eF hlt (by omega),?_⟩;rw[ag (by omega)];exact I.sub
 have hlt:k.done+1≤x.done:=by
  have:=of_decide_eq_false aj;omega
 replace I:=(JC.resolve_left (λh=>by omega)).2;refine CL 2 E I (xK (L:=aa b3 238 (cg x ad c)::Tree tq sq T::bK jq J::L) (I.sub (M:=aa wb 247 (cx p aq cO tq jq sq k)::ax sq r A::aa b3 238 (cg x ad c)::Tree tq sq T::bK jq J::L)) hb) λa w E I=>?_;refine RN 0 E I λa E=>?_;refine cc (M:=λa w=>∃ (b4:Nat) (ad2:Option Addr) (c2:Nat),Fr a 55 [(0,pt wb),(4,pt b4),(5,.bool true)]∧U W w (aa b4 238 (cg x ad2 c2)::aa wb 247 (cx p aq cO tq jq sq { k with busy:=false })::Tree tq sq T::ax sq r (A.eA k.x)::bK jq J::L)) ?_ ?_
 ·
  refine aY 0 (λw0 V=>Rd V wb 0 (cx p aq cO tq jq sq { k with busy:=false })∧Rd V b3 0 (cg x ad c)) [5,10] [0,1,2,4,3003,3005,2006,7,8,9,1010,1011,12] E I λa w E I hH=>?_;have hC:=hH.at w ⟨I.ai,I.ai⟩;refine RH 4 E I hH hC λa E=>?_;refine QH E (λw hc=>ae E (hc.1 2 _ rfl)) hC λa E=>?_;refine QH E (λw hc=>ae E (hc.2 0 _ rfl)) hC λa E=>?_;refine RH 0 E I hH hC λa E=>?_;refine DN [(6,[7,8,9,1010,1011,12]),(10,[1006,7,8,9,1011,12])] (by kernel_rfl) rfl ⟨⟨_,rfl,?_⟩,⟨_,rfl,?_⟩,trivial⟩
  ·
   refine RH 0 E I hH hC λa E=>?_;refine a6 0 E I (xm (x:=x) (k:=kk) (I.tree tq) hx) λad2 c2 a w E I=>?_;refine RN 3 E I λa E=>?_;refine eW E rfl I Ty.t238 rfl λb4 a w E I ho=>?_;clear ho;replace hC:=hH.at w (And.intro I.ai I.ai);refine RH 0 E I hH hC λa E=>?_;refine SA 0 E I λa w E I=>?_;refine RN 1 E I λa E=>?_;exact⟨_,ad2,c2,E.ab [0,4,5],I.sub⟩
  refine RH 0 E I hH hC λa E=>?_;refine eW E rfl I Ty.t238 rfl λb4 a w E I ho=>?_;clear ho;replace hC:=hH.at w (And.intro I.ai I.ai);refine RH 0 E I hH hC λa E=>?_;refine a6 0 E I (xm (x:=x) (k:=kk) (I.tree tq) hx) λad2 c2 a w E I=>?_;refine SA 3 E I λa w E I=>?_;refine RN 1 E I λa E=>?_;exact⟨_,ad2,c2,E.ab [0,4,5],I.sub⟩
 clear E;(try clear I);rintro a w ⟨b4,ad2,c2,E,I⟩;refine RN 3 E I λa E=>?_;replace E:=E.dX 38;refine IF 7 E I (λao a E=>?_) λao a E=>?_
 ·
  refine aY 0 (λw0 V=>Rd V wb 0 (cx p aq cO tq jq sq { k with busy:=false })∧Rd V wb 6 [.int .i64 k.jb,.int .i64 k.je]) [7] [0,1,2,4,5,6,3003,1007,1008] E I λa w E I hH=>?_;have vH:Rd w wb 6 [.int .i64 k.jb,.int .i64 k.je]:=(I.ai (b:=wb)).part 6 2;have hC:=hH.at w ⟨I.ai,vH⟩;refine RH 6 E I hH hC λa E=>?_;refine QH E (λw hc=>ae E (hc.1 3 _ rfl)) hC λa E=>?_;refine RH 0 E I hH hC λa E=>?_;refine SS E (bR E underlying245 rfl Ty.t245 (hC.2)) λa E=>?_;refine RH 0 E I hH hC λa E=>?_;refine CL 0 E I (zF (I.tL jq) ko) λa w E I=>?_;change U W w (bK jq (lG J k.jb k.je)::_) at I;refine RT 0 E I ?_;refine⟨_,_,if x.done<x.ak.length then lG J k.jb k.je else J,{ k with busy:=false },rfl,.lost (x:=x) hb he eG bT eF hlt,?_⟩;rw[al (by omega)];exact I.sub
 refine RT 0 E I ?_;refine⟨_,_,if x.done<x.ak.length then lG J k.jb k.je else J,{ k with busy:=false },rfl,.lost (x:=x) hb he eG bT eF hlt,?_⟩;rw[ag (by omega)];exact I.sub
structure JD (p:Pr)(A:Sn)(T:Tr)(J:Js)(k:Wk):Prop where
 pr:db p
 sz:p.title.size≤1000000000
 frm:∀ y∈T.l,0≤y.frm∧y.frm≤1099511627776
 gl:∀ x∈T.l,∃ (i:Nat) (px:aD),A.au[i]?=some px∧px.id=x.snap
 Wn:k.busy=true→(∃ (i:Nat) (px:aD),A.au[i]?=some px∧px.id=k.x∧px.refs=1∧dQ px.g)∧∀ y∈T.l,(y.id:Int)=k.jb→k.done<y.ak.length
 n:A.n+1<1099511627776
 len:J.length≤16
theorem Inv.ready {F:Int}{g0:Nat→Int}{t:Nat→Nat}{base:Nat}{ws:List Wk}(h:Inv p F g0 t base A T ws)(hk:k∈ws)(hF:0≤F∧F≤1099511627776)(hp:db p)(hz:p.title.size≤1000000000)(hn:A.n+1<1099511627776)(ko:J.length≤16):JD p A T J k :=
 ⟨hp,hz,λy hy=>by rw[(h.ga y hy).1];exact hF,λx hx=>h.Jc hx,λhb=>⟨by
  obtain⟨i,px,h1,h2⟩:=h.Vg hk hb;have h3:=h.au px (bJ h1);exact⟨i,px,h1,h2,h3.1,h3.2⟩,λy hy he=>((h.lj k hk).2 hb y hy he).1⟩,hn,ko⟩
theorem Wo (I:U W w (aa wb 247 (cx p aq cO tq jq sq k)::Tree tq sq T::ax sq r A::bK jq J::ay W p aq cO::L))(hr:JD p A T J k) :
   Calls prog 102 #[pt wb] w λe V=>∃ (z:Bool) (A':Sn) (T':Tr) (J':Js) (k':Wk),e=.returned (.bool z)∧lh p A T J k z A' T' J' k' ∧
    U W V (aa wb 247 (cx p aq cO tq jq sq k')::Tree tq sq T'::ax sq r A'::bK jq J'::ay W p aq cO::L):=by
 refine EN func102 ntmps102 rfl rfl λa E=>?_;refine RN 6 E I λa E=>?_;replace E:=E.aK 6;refine IF 8 E I (λao a E=>?_) λao a E=>?_
 ·
  refine jJ 2 E I (Wg (p:=p) I ao hr.gl hr.n) ?_;clear E I;rintro e w ⟨z,A',J',k',rfl,tT,I⟩;refine⟨_,rfl,λa E=>?_⟩;refine RT 1 E I ?_;exact⟨z,A',T,J',k',rfl,tT,I⟩
 obtain⟨⟨i,px,g9,kU,a7,sx⟩,dc⟩:=hr.Wn ao;refine RN 0 E I λa E=>?_;refine cc (M:=λa w=>∃ (b3:Nat) (x:Br) (ad:Option Addr) (c:Nat) (ok:Bool),((ok=true∧x∈T.l∧(x.id:Int)=k.jb)∨(ok=false∧∀ y∈T.l,(y.id:Int)≠k.jb))∧Fr a 57 [(0,pt wb),(3,pt b3),(4,.bool ok)]∧U W w (aa b3 238 (cg x ad c)::cd ad x.ak.length c x.ak::aa wb 247 (cx p aq cO tq jq sq k)::Tree tq sq T::ax sq r A::bK jq J::ay W p aq cO::L)) ?_ ?_
 ·
  refine aY 0 (λw0 V=>Rd V wb 0 (cx p aq cO tq jq sq k)) [8,13] [0,1,2,4,5,6,7,3003,3008,2009,10,11,12,1013,1014,15] E I λa w E I hH=>?_;have hC:=hH.at w I.ai;refine RH 7 E I hH hC λa E=>?_;refine QH E (λw hc=>ae E (hc 2 _ rfl)) hC λa E=>?_;refine QH E (λw hc=>ae E (hc 6 _ rfl)) hC λa E=>?_;refine RH 0 E I hH hC λa E=>?_;refine DN [(9,[10,11,12,1013,1014,15]),(13,[1009,10,11,12,1014,15])] (by kernel_rfl) rfl ⟨⟨_,rfl,?_⟩,⟨_,rfl,?_⟩,trivial⟩
  ·
   refine RH 0 E I hH hC λa E=>?_;refine jJ 0 E I (zP (id:=k.jb) (I.tree tq)) ?_;clear E I;rintro e w ⟨x,ad,c,ok,rfl,dt,I⟩;refine⟨_,rfl,λa E=>?_⟩;refine RN 3 E I λa E=>?_;refine eW E rfl I Ty.t238 rfl λb3 a w E I ho=>?_;clear ho;replace hC:=hH.at w I.ai;refine RH 0 E I hH hC λa E=>?_;refine SA 0 E I λa w E I=>?_;refine RN 1 E I λa E=>?_;exact⟨_,x,ad,c,ok,dt,E.ab [0,3,4],I.sub⟩
  refine RH 0 E I hH hC λa E=>?_;refine eW E rfl I Ty.t238 rfl λb3 a w E I ho=>?_;clear ho;replace hC:=hH.at w I.ai;refine RH 0 E I hH hC λa E=>?_;refine jJ 0 E I (zP (id:=k.jb) (I.tree tq)) ?_;clear E I;rintro e w ⟨x,ad,c,ok,rfl,dt,I⟩;refine⟨_,rfl,λa E=>?_⟩;refine SA 3 E I λa w E I=>?_;refine RN 1 E I λa E=>?_;exact⟨_,x,ad,c,ok,dt,E.ab [0,3,4],I.sub⟩
 clear E;(try clear I);rintro a w ⟨b3,x,ad,c,ok,dt,E,I⟩;refine aY 2 (λw0 V=>Rd V wb 0 (cx p aq cO tq jq sq k)) [8,9] [0,1,2,3,5,6,7,3004,1008,1009,10,11,12,13,14,15] E I λa w E I hH=>?_;have hC:=hH.at w I.ai;refine RH 7 E I hH hC λa E=>?_;refine QH E (λw hc=>ae E (hc 7 _ rfl)) hC λa E=>?_;refine RH 0 E I hH hC λa E=>?_;refine SS E (ae E (hC 2 _ rfl)) λa E=>?_;refine RH 0 E I hH hC λa E=>?_;refine CL 0 E I (zA (I.tree tq)) λa w E I=>?_;replace hC:=hH.at w I.ai;refine RH 2 E I hH hC λa E=>?_;refine E.by (s:=42) (λkP E=>?_) (λkP E=>?_)
 ·
  refine RH 4 E I hH hC λa E=>?_;refine CL 2 E I (xK (L:=Tree tq sq T::bK jq J::ay W p aq cO::L) (I.sub (M:=aa wb 247 (cx p aq cO tq jq sq k)::ax sq r A::Tree tq sq T::bK jq J::ay W p aq cO::L)) ao) λa w E I=>?_;refine RT 2 E I ?_;exact⟨true,A.eA k.x,T,J,{ k with busy:=false },rfl,.gone ao (.inl kP),I.sub⟩
 refine RH 4 E I hH hC λa E=>?_;refine IF 0 E I (λaz a E=>?_) λaz a E=>?_
 ·
  have bX:∀ y∈T.l,(y.id:Int)≠k.jb:=by
   rcases dt with ⟨h,_⟩ | ⟨_,h⟩
   ·rw[h]at az;cases az
   ·exact h
  refine CL 1 E I (xK (L:=Tree tq sq T::bK jq J::ay W p aq cO::L) (I.sub (M:=aa wb 247 (cx p aq cO tq jq sq k)::ax sq r A::Tree tq sq T::bK jq J::ay W p aq cO::L)) ao) λa w E I=>?_;refine RT 2 E I ?_;exact⟨true,A.eA k.x,T,J,{ k with busy:=false },rfl,.gone ao (.inr bX),I.sub⟩
 obtain⟨hx,bT⟩:x∈T.l∧(x.id:Int)=k.jb:=by
  rcases dt with ⟨_,h⟩ | ⟨h,_⟩
  ·exact h
  ·rw[h]at az;cases az
 refine IF 7 E I (λbh a E=>?_) λbh a E=>?_
 ·
  refine jI 2 E I (Wi (I.sub (M:=aa wb 247 (cx p aq cO tq jq sq k)::cd ad x.ak.length c x.ak::Tree tq sq T::ax sq r A::bK jq J::ay W p aq cO::L)) ao kP hx bT bh g9 kU a7 sx (dc x hx bT) (hr.frm x hx) hr.pr hr.sz hr.len) λA' J' k' a w E ⟨tT,I⟩=>?_;refine RT 2 E I ?_;exact⟨true,A',T,J',k',rfl,tT,I⟩
 obtain⟨kk,jL⟩:=jM.1 hx;refine jJ 2 E I (Wm (p:=p) (L:=ay W p aq cO::L) (I.sub (M:=aa wb 247 (cx p aq cO tq jq sq k)::Tree tq sq T::ax sq r A::bK jq J::ay W p aq cO::L)) ao kP jL bT bh g9 kU (dc x hx bT) hr.len) ?_;clear E I;rintro e w ⟨A',T',J',k',rfl,tT,I⟩;refine⟨_,rfl,λa E=>?_⟩;refine RT 2 E I ?_;exact⟨true,A',T',J',k',rfl,tT,I⟩
end
end
section
theorem DL {s:ByteArray}{j:Nat}(h:j<s.size):s.get! j=s[j]'h:=by
 have h2:j<s.data.size:=h;show s.data[j]! = s.data[j];rw[getElem!_pos s.data j h2]
theorem JE {s:ByteArray}{j:Nat}(h:s.size≤j):s.get! j=0:=by
 have h2:¬ j<s.data.size:=Nat.not_lt.2 h;show s.data[j]! = 0;rw[getElem!_neg s.data j h2];rfl
theorem qY (s:ByteArray)(p:Nat):(s.extract p s.size).size=s.size-p:=by simp[ByteArray.size_extract]
theorem Wp (s:ByteArray)(p k:Nat):(s.extract p s.size).get! k=s.get! (p+k):=by
 by_cases h:p+k<s.size
 ·have h2:k<(s.extract p s.size).size:=by rw[qY];omega
  rw[DL h2,DL h,ByteArray.getElem_extract]
 ·rw[JE (by rw[qY];omega),JE (by omega)]
theorem Wq (s:ByteArray)(p:Nat):Utf8.decode (s.extract p s.size) 0=Utf8.decode s p:=by
 have hc:∀ k,decide (k<s.size-p)=decide (p+k<s.size):=λk=>by
  by_cases h:p+k<s.size
  ·rw[dq h,dq (by omega)]
  ·rw[bq h,bq (by omega)]
 simp only[Utf8.decode,Wp,qY,hc,Nat.zero_add,Nat.add_assoc]
theorem DM (s:ByteArray)(p n:Nat):(s.extract p s.size).extract n (s.extract p s.size).size=s.extract (p+n) s.size:=by
 rw[qY,ByteArray.extract_extract]
 congr 1
 omega
def DO (b n low r:Nat):Prop:=(b=192+r∧r<32∧n=2∧low=128)∨(b=224+r∧r<16∧n=3∧low=2048)∨(b=240+r∧r<8∧n=4∧low=65536)
def jU (s:ByteArray)(j:Nat):Nat:=(s.get! j).toNat
def gb (s:ByteArray)(r:Nat):Nat→Nat
 | 0=>r
 | j+1=>gb s r j*64+jU s (j+1)%64
theorem DP (s:ByteArray)(j:Nat):jU s j<256:=(s.get! j).toNat_lt
theorem DQ {s:ByteArray}{r:Nat}(h:r<32):∀ j,gb s r j<32*64 ^ j
 | 0=>by simpa [gb] using h
 | j+1=>by
  have:=DQ (s:=s) h j;rw[gb,Nat.pow_succ];omega
def zR (low r:Nat):Prop:=r<low∨1114111<r∨(55296≤r∧r<57344)
section
variable {s:ByteArray}{b n low r:Nat}
theorem Wr (hb:jU s 0=b)(h:b<128):Utf8.decode s 0=(b,1):=by
 simp only[jU]at hb;simp[Utf8.decode,hb,h]
theorem sy (hb:jU s 0=b)(h1:128≤b)(h2:b<192∨248≤b):Utf8.decode s 0=(0xFFFD,1):=by
 have:=DP s 0;simp only[jU]at hb this;have e1:¬ b<128:=by omega
 have e2:(b/32==6)=false:=by rw[lD];omega
 have e3:(b/16==14)=false:=by rw[lD];omega
 have iV:(b/8==30)=false:=by rw[lD];omega
 simp[Utf8.decode,hb,e1,e2,e3,iV,Utf8.runeError]
theorem DR (hb:jU s 0=b)(hd:DO b n low r)(h:s.size<n∨∃ k,1≤k∧k<n∧jU s k/64≠2):Utf8.decode s 0=(0xFFFD,1):=by
 have hc:∃ k,1≤k∧k<n∧(decide (k<s.size)&&jU s k/64==2)=false:=by
  rcases h with h | ⟨k,h1,h2,h3⟩
  ·rcases Nat.eq_zero_or_pos s.size with h0 | h0
   ·exact⟨1,by omega,by rcases hd with h | h | h <;> omega,by rw[bq (by omega),Bool.false_and]⟩
   ·exact⟨s.size,by omega,h,by rw[bq (by omega),Bool.false_and]⟩
  ·exact⟨k,h1,h2,by rw[lD.2 h3,Bool.and_false]⟩
 obtain⟨k,h1,h2,h3⟩:=hc;simp only[jU]at hb h3;rcases hd with ⟨rfl,h4,rfl,rfl⟩ | ⟨rfl,h4,rfl,rfl⟩ | ⟨rfl,h4,rfl,rfl⟩
 ·have e1:¬ 192+r<128:=by omega
  have e2:((192+r)/32==6)=true:=by rw[beq_iff_eq];omega
  have e3:((192+r)/16==14)=false:=by rw[lD];omega
  have iV:((192+r)/8==30)=false:=by rw[lD];omega
  obtain rfl:k=1:=by omega
  simp only[Utf8.decode,Nat.zero_add,hb,e1,e2,e3,iV,h3,Utf8.runeError];simp
 ·have e1:¬ 224+r<128:=by omega
  have e2:((224+r)/32==6)=false:=by rw[lD];omega
  have e3:((224+r)/16==14)=true:=by rw[beq_iff_eq];omega
  have iV:((224+r)/8==30)=false:=by rw[lD];omega
  have hk:k=1∨k=2:=by omega
  rcases hk with rfl | rfl
  all_goals
   simp only[Utf8.decode,Nat.zero_add,hb,e1,e2,e3,iV,h3,Utf8.runeError];simp
 ·have e1:¬ 240+r<128:=by omega
  have e2:((240+r)/32==6)=false:=by rw[lD];omega
  have e3:((240+r)/16==14)=false:=by rw[lD];omega
  have iV:((240+r)/8==30)=true:=by rw[beq_iff_eq];omega
  have hk:k=1∨k=2∨k=3:=by omega
  rcases hk with rfl | rfl | rfl
  all_goals
   simp only[Utf8.decode,Nat.zero_add,hb,e1,e2,e3,iV,h3,Utf8.runeError];simp
theorem Ws (hb:jU s 0=b)(hd:DO b n low r)(I:n≤s.size)(h:∀ k,1≤k→k<n→jU s k/64=2) :
   (zR low (gb s r (n-1))→Utf8.decode s 0=(0xFFFD,1))∧(¬ zR low (gb s r (n-1))→Utf8.decode s 0=(gb s r (n-1),n)):=by
 simp only[zR];have hc:∀ k,1≤k→k<n→(decide (k<s.size)&&(s.get! k).toNat/64==2)=true:=λk h1 h2=>by
  rw[dq (by omega),Bool.true_and,beq_iff_eq];exact h k h1 h2
 have hlt:=DQ (s:=s) (r:=r) (by rcases hd with h | h | h <;> omega) (n-1);simp only[jU]at hb;rcases hd with ⟨rfl,h4,rfl,rfl⟩ | ⟨rfl,h4,rfl,rfl⟩ | ⟨rfl,h4,rfl,rfl⟩
 ·have e1:¬ 192+r<128:=by omega
  have e2:((192+r)/32==6)=true:=by rw[beq_iff_eq];omega
  have sA:gb s r (2-1)=(192+r)%32*64+(s.get! 1).toNat%64:=by
   show r*64+(s.get! 1).toNat%64=_;omega
  have ki:Utf8.decode s 0=if 128≤gb s r (2-1) then (gb s r (2-1),2) else (0xFFFD,1):=by
   rw[sA];simp only[Utf8.decode,Nat.zero_add,hb,e1,e2,hc 1 (by omega) (by omega),Utf8.runeError];simp
  have aeE:gb s r (2-1)<2048:=hlt;refine⟨λjP=>?_,λhg=>?_⟩
  ·rw[ki,ag (by omega)]
  ·rw[ki,al (by omega)]
 ·have e1:¬ 224+r<128:=by omega
  have e2:((224+r)/32==6)=false:=by rw[lD];omega
  have e3:((224+r)/16==14)=true:=by rw[beq_iff_eq];omega
  have sA:gb s r (3-1)=(224+r)%16*4096+(s.get! 1).toNat%64*64+(s.get! 2).toNat%64:=by
   show (r*64+(s.get! 1).toNat%64)*64+(s.get! 2).toNat%64=_;omega
  have ki:Utf8.decode s 0=if 2048≤gb s r (3-1)∧Utf8.valid (gb s r (3-1))=true then (gb s r (3-1),3) else (0xFFFD,1):=by
   rw[sA];simp only[Utf8.decode,Nat.zero_add,hb,e1,e2,e3,hc 1 (by omega) (by omega),hc 2 (by omega) (by omega),Utf8.runeError];simp
  have hv:Utf8.valid (gb s r (3-1))=true↔(gb s r (3-1)<55296∨(57344≤gb s r (3-1)∧gb s r (3-1)≤1114111)):=by
   simp only[Utf8.valid,Bool.or_eq_true,fC,decide_eq_true_eq];omega
  refine⟨λjP=>?_,λhg=>?_⟩
  ·rw[ki,ag (by rw[hv];omega)]
  ·rw[ki,al (by rw[hv];omega)]
 ·have e1:¬ 240+r<128:=by omega
  have e2:((240+r)/32==6)=false:=by rw[lD];omega
  have e3:((240+r)/16==14)=false:=by rw[lD];omega
  have iV:((240+r)/8==30)=true:=by rw[beq_iff_eq];omega
  have sA:gb s r (4-1)=(240+r)%8*262144+(s.get! 1).toNat%64*4096+(s.get! 2).toNat%64*64+(s.get! 3).toNat%64:=by
   show ((r*64+(s.get! 1).toNat%64)*64+(s.get! 2).toNat%64)*64+(s.get! 3).toNat%64=_;omega
  have ki:Utf8.decode s 0=if 65536≤gb s r (4-1)∧Utf8.valid (gb s r (4-1))=true then (gb s r (4-1),4) else (0xFFFD,1):=by
   rw[sA];simp only[Utf8.decode,Nat.zero_add,hb,e1,e2,e3,iV,hc 1 (by omega) (by omega),hc 2 (by omega) (by omega),hc 3 (by omega) (by omega),Utf8.runeError];simp
  have hv:Utf8.valid (gb s r (4-1))=true↔(gb s r (4-1)<55296∨(57344≤gb s r (4-1)∧gb s r (4-1)≤1114111)):=by
   simp only[Utf8.valid,Bool.or_eq_true,fC,decide_eq_true_eq];omega
  refine⟨λjP=>?_,λhg=>?_⟩
  ·rw[ki,ag (by rw[hv];omega)]
  ·rw[ki,al (by rw[hv];omega)]
end
def zS (x:Nat×Nat):Bool:=if x.1≠65533 then true else decide (x.2=3)
theorem Wt (s:ByteArray)(i:Nat):zS (Utf8.decode s i)=mg (Utf8.decode s i):=by
 rcases IY s i with h | h
 ·unfold zS mg;by_cases h1:(Utf8.decode s i).1=65533
  ·rw[h1]at h;have h2:(Utf8.decode s i).2=3:=by rw[← h];rfl
   rw[ag (λh3=>h3 h1),h2];have:Utf8.decode s i≠(65533,1):=λe=>by rw[e]at h2;cases h2
   simp[this]
  ·rw[al h1];have:Utf8.decode s i≠(65533,1):=λe=>h1 (by rw[e]);simp[this]
 ·rw[h];rfl
def vI (c:Int):Nat:=[0,2,2,3,3,3,3,3,3,1,2,2,2,2,2,1].getD c.toNat 0
def zT (o:gy)(k:Nat):Int:=if k=0 then o.a else if k=1 then o.b else o.c
def jV (n:Int)(o:gy)(k:Nat):Int:=if vI o.code≤k then 0 else if o.code=9∨(o.code=10∧k=1) then n else 31
def qZ (n:Int)(o:gy)(k:Nat):Prop:=(k<vI o.code∧o.code=1∧k=1)∨(0≤zT o k∧zT o k≤jV n o k)
theorem xM {n:Int}{o:gy}:eZ n o↔(0≤o.code∧o.code≤15)∧qZ n o 0∧qZ n o 1∧qZ n o 2:=by
 obtain⟨code,a,b,c⟩:=o;simp only[eZ,qZ,zT,jV,eY];by_cases h:0≤code∧code≤15
 ·have h2:∃ m:Nat,code=m∧m≤15:=⟨code.toNat,by omega,by omega⟩;obtain⟨m,rfl,hm⟩:=h2;have:m=0∨m=1∨m=2∨m=3∨m=4∨m=5∨m=6∨m=7∨m=8∨m=9∨m=10∨m=11∨m=12∨m=13∨m=14∨m=15:=by omega
  rcases this with rfl | rfl | rfl | rfl | rfl | rfl | rfl | rfl | rfl | rfl | rfl | rfl | rfl | rfl | rfl | rfl <;> simp[vI] <;> omega
 ·constructor
  ·intro h3;omega
  ·intro h3;exact absurd h3.1 h
end
end Go.Proofs.YteoldcfapaiobaaGreat
