/- The walks of packages word and vm, over whatever memory keeps the cells. -/
import Derived.Test.YteoldcfapaiobaaGreatD04Job
import Derived.Test.YteoldcfapaiobaaGreatD01Row
import Derived.Test.YteoldcfapaiobaaGreatD03Snap2
namespace Go.Proofs.YteoldcfapaiobaaGreat
open Tryz
open List (mem_cons_self getElem?_append_right mem_range eraseIdx_set_eq append_nil getElem_mem set_set range_succ countP_congr)
open Go.RowKit
set_option linter.unusedVariables false
set_option linter.unusedSimpArgs false
set_option maxRecDepth 10000
set_option synthInstance.maxSize 4000
set_option synthInstance.maxHeartbeats 400000
section
section
variable {W w:World}{L:List SP}
theorem Jo {x:Int}(I:U W w L)(hx:dp x):Calls prog 229 #[.int .i32 x,.int .i64 32] w λe w'=>e=.returned (.int .i64 (ku x))∧U W w' L:=by
 have h1:=Int.tmod_lt_of_pos x (b:=32) (by decide);have h2:=Int.lt_tmod_of_pos x (b:=32) (by decide);have hm:(ku x:Int)=x%32:=by
  have h1:=Int.emod_nonneg x (show (32:Int)≠0 by decide);show (((x%32).toNat:Nat):Int)=_;omega
 have ht:x.tmod 32=if 0≤x then x%32 else -((-x)%32):=by
  split
  ·exact Int.tmod_eq_emod_of_nonneg (by omega)
  ·rw[← Int.neg_neg (x.tmod 32),← Int.neg_tmod,Int.tmod_eq_emod_of_nonneg (by omega)]
 simp only[dp]at hx;refine EN func229 ntmps229 rfl rfl λa E=>?_;refine RN 6 E I λa E=>?_;replace E:=E.aM 7;refine SX 3 E I (by rw[fY (by omega) (by omega)]) λa E=>?_;refine IF 7 E I (λao a E=>?_) λao a E=>?_
 ·
  refine RN 4 E I λa E=>?_;rw[show x.tmod 32+32=(ku x:Int) from by rw[hm,ht];split <;> omega]at E;refine RT 3 E I ?_;exact⟨rfl,I⟩
 refine RT 3 E I ?_;exact⟨by rw[hm,show x.tmod 32=x%32 from by rw[ht] at *;split at*<;> omega],I⟩
theorem VR {x y:Int}(I:U W w L):Calls prog 244 #[.int .i32 x,.int .i32 y] w λe w'=>e=.returned (.int .i32 (hZ (x+y)))∧U W w' L:=by
 refine EN func244 ntmps244 rfl rfl λa E=>?_;refine RT 7 E I ?_;exact⟨rfl,I⟩
theorem VS {x y:Int}(I:U W w L):Calls prog 245 #[.int .i32 x,.int .i32 y] w λe w'=>e=.returned (.int .i32 (hZ (x-y)))∧U W w' L:=by
 refine EN func245 ntmps245 rfl rfl λa E=>?_;refine RT 7 E I ?_;exact⟨rfl,I⟩
theorem VT {x y:Int}(I:U W w L):Calls prog 246 #[.int .i32 x,.int .i32 y] w λe w'=>e=.returned (.int .i32 (hZ (x*y)))∧U W w' L:=by
 refine EN func246 ntmps246 rfl rfl λa E=>?_;refine RT 7 E I ?_;exact⟨rfl,I⟩
theorem VU {x y:Int}(I:U W w L):Calls prog 247 #[.int .i32 x,.int .i32 y] w λe w'=>e=.returned (.int .i32 (if y=0 then 0 else hZ (x.tdiv y)))∧U W w' L:=by
 refine EN func247 ntmps247 rfl rfl λa E=>?_;refine IF 8 E I (λaj a E=>?_) λaj a E=>?_
 ·
  refine RT 2 E I ?_;exact⟨by rw[ak (by omega)],I⟩
 refine IF 3 E I (λao a E=>?_) λao a E=>?_
 ·
  refine RT 4 E I ?_;exact⟨by rw[ag (by omega),show y = -1 from by omega,Int.tdiv_neg,Int.tdiv_one,show (0:Int)-x = -x from by omega];rfl,I⟩
 refine RN 3 E I λa E=>?_;refine SS E (HY E (by omega)) λa E=>?_;refine RT 1 E I ?_;exact⟨by rw[ag (by omega)];rfl,I⟩
theorem Jp {z:Bool}(I:U W w L):Calls prog 248 #[.bool z] w λe w'=>e=.returned (.int .i32 (if z=true then 1 else 0))∧U W w' L:=by
 refine EN func248 ntmps248 rfl rfl λa E=>?_;refine IF 5 E I (λaj a E=>?_) λaj a E=>?_
 ·
  refine RT 2 E I ?_;exact⟨by rw[ak aj],I⟩
 refine RT 2 E I ?_;exact⟨by rw[ag (by rw[aj];decide)],I⟩
theorem VV {k x y:Int}(I:U W w L):Calls prog 242 #[.int .i64 k,.int .i32 x,.int .i32 y] w λe w'=>e=.returned (.int .i32 (iO k x y))∧U W w' L:=by
 refine EN func242 ntmps242 rfl rfl λa E=>?_;refine IF 8 E I (λaj a E=>?_) λaj a E=>?_
 ·
  refine CL 3 E I (VR I) λa w E I=>?_;refine RT 1 E I ?_;exact⟨by simp[iO,aj],I⟩
 refine IF 3 E I (λao a E=>?_) λao a E=>?_
 ·
  refine CL 3 E I (VS I) λa w E I=>?_;refine RT 1 E I ?_;exact⟨by simp[iO,ao],I⟩
 refine IF 3 E I (λay a E=>?_) λay a E=>?_
 ·
  refine CL 3 E I (VT I) λa w E I=>?_;refine RT 1 E I ?_;exact⟨by simp[iO,ay],I⟩
 refine IF 3 E I (λbk a E=>?_) λbk a E=>?_
 ·
  refine CL 3 E I (VU I) λa w E I=>?_;refine RT 1 E I ?_;exact⟨by simp[iO,bk],I⟩
 refine IF 3 E I (λbL a E=>?_) λbL a E=>?_
 ·
  refine CL 4 E I (Jp I) λa w E I=>?_;refine RT 1 E I ?_;exact⟨by simp[iO,bL],I⟩
 refine CL 4 E I (Jp I) λa w E I=>?_;refine RT 1 E I ?_;exact⟨by simp[iO,aj,ao,ay,bk,bL],I⟩
theorem VW {s:ByteArray}{n:Int}(I:U W w L)(aG:s.size≤1099511627776)(hn:dp n):Calls prog 241 #[.string s,.int .i64 n] w λe w'=>e=.returned (.int .i32 (mO s n))∧U W w' L:=by
 simp only[dp]at hn;refine EN func241 ntmps241 rfl rfl λa E=>?_;refine RN 5 E I λa E=>?_;refine CA E rfl I underlying9 rfl λb8 a w E I ho=>?_;clear ho;refine RN 0 E I λa E=>?_;refine aO (λμ a w=>∃ (pos:Nat) (dn:List (Nat×Nat)),(μ=s.size-pos∧pos≤s.size∧dZ s 0=dn++dZ s pos∧dn.length≤pos∧(n<0∨(dn.length:Int)≤n))∧Fr a 17 [(0,.string s),(1,.int .i64 (n-dn.length)),(8,pt b8)]∧U W w (kD b8 (.stringIter s pos)::L)) (s.size) (⟨0,[],⟨by simp,by simp,by simp,by simp,by simp;omega⟩,by rw[show n-(([]:List (Nat×Nat)).length:Int)=n from by simp];exact E.ab [0,1,8],I⟩) ?_;clear E I;rintro μ a w ⟨pos,dn,⟨rfl,p0,c6,mi,nz⟩,E,I⟩;refine RN 1 E I λa E=>?_;refine CC E rfl I rfl λa w E I=>?_;refine RN 0 E I λa E=>?_;refine SS E (nQ E (Cy s pos)) λa E=>?_;refine IF 1 E I (λaj a E=>?_) λaj a E=>?_
 ·
  have mQ:=q3 aj;have jg:=De p0;have pa:dW s pos=pos+(Utf8.decode s pos).2:=by rw[dW,ak aj]
  have ll:=tU s pos;refine RN 1 E I λa E=>?_;refine SS E (nQ E (Cz aj)) λa E=>?_;refine IF 5 E I (λao a E=>?_) λao a E=>?_
  ·
   refine RT 3 E I ?_;refine⟨?_,I.sub⟩;have oa:n.toNat=dn.length:=by omega
   rw[mO,ak (by omega),c6,mQ,oa,getElem?_append_right (bd _),Nat.sub_self];rfl
  refine RN 3 E I λa E=>?_;exact⟨s.size-dW s pos,by omega,dW s pos,dn++[Utf8.decode s pos],⟨rfl,jg,by rw[c6,mQ,du];rfl,by rw[aL];simp;omega,by rw[aL];simp;omega⟩,by rw[show n-((dn++[Utf8.decode s pos]).length:Int)=n-(dn.length:Int)-1 from by rw[aL];simp;omega];exact E.ab [0,1,8],I.sub⟩
 refine RT 2 E I ?_;refine⟨?_,I.sub⟩;have gC:=q4 (s:=s) (pos:=pos) aj;rw[gC,append_nil]at c6;rw[mO];split
 ·rw[c6,iU (by omega)];rfl
 ·rfl
structure xP (W:World)(t:TypeId)(ad:Addr)(uc fs:FuncId)(J:(Nat→Int)→Bool→SP):Prop where
 ob : oY prog t "Get" uc
 oc:g7 prog uc=true
 zX : oY prog t "Set" fs
 vz:g7 prog fs=true
 ok:∀ (w:World) (L:List SP) (g:Nat→Int) (bad:Bool),U W w (J g bad::L)→dO g
 get:∀ (w:World) (L:List SP) (g:Nat→Int) (bad:Bool) (c:Nat),c<32→U W w (J g bad::L)→Calls prog uc (List.toArray [.pointer (some ad),.int .i64 c]) w λe w'=>e=.returned (.int .i32 (g c))∧U W w' (J g bad::L)
 set:∀ (w:World) (L:List SP) (g:Nat→Int) (bad:Bool) (c:Nat) (v:Int),c<32→dp v→U W w (J g bad::L)→Calls prog fs (List.toArray [.pointer (some ad),.int .i64 c,.int .i32 v]) w λe w' =>
  ∃ (g':Nat→Int) (fm:Bool),e=.returned (.tuple #[])∧((fm=true∧g'=g)∨(fm=false∧bad=false∧g'=cg g c v))∧U W w' (J g' fm::L)
abbrev hG (p:Pr)(aq:Option Addr)(cO:Nat)(t:TypeId)(ad:Addr)(fr:Int)(adP:Option Addr)(sH cP:Nat)(aU:Nat):List Value :=
 [.string p.title,.slice aq p.ops.length cO,.iface t (.pointer (some ad)),.int .i64 fr,.slice adP sH cP,.int .i64 aU]
variable {t:TypeId}{ad:Addr}{uc fs gl aU cO cP:Nat}{J:(Nat→Int)→Bool→SP}{p:Pr}{aq adP:Option Addr}{fr:Int}{b:List UInt8}{g:Nat→Int}{bad:Bool}{o:gA}
theorem VX {x:Int}(I:U W w (aa gl 336 (hG p aq cO t ad fr adP b.length cP aU)::L))(hx:dp x)(hb:b.length≤1099511627776)(hp:∀ w',U W w' L→aT w' adP b.length b) :
   Calls prog 240 #[pt gl,.int .i32 x] w λe w'=>e=.returned (.int .i32 (mg b x))∧U W w' (aa gl 336 (hG p aq cO t ad fr adP b.length cP aU)::L):=by
 simp only[dp]at hx;refine EN func240 ntmps240 rfl rfl λa E=>?_;refine BY 7 E I (λbD a E=>?_) λbD a E=>?_
 ·
  refine RT 12 E I ?_;exact⟨by rw[mg,ag (by omega)],I⟩
 refine SX 1 E I (by rw[fY (by omega) (by omega)]) λa E=>?_;refine IF 7 E I (λaj a E=>?_) λaj a E=>?_
 ·
  refine RT 2 E I ?_;exact⟨by rw[mg,ag (by omega)],I⟩
 refine RN 1 E I λa E=>?_;obtain⟨k,hk⟩:∃ k:Nat,x=(k:Int):=⟨x.toNat,by omega⟩;obtain⟨_,_,a6⟩:=hp _ I.tail;have xQ:k<b.length:=by omega
 obtain⟨bp,op,gW,c4⟩:∃ bp op,adP=some ⟨bp,op,none⟩∧Rd w bp op (bc b):=by
  cases hh:adP with
  | none =>
   have:=(hp _ I.tail).2.1 hh;omega
  | some a =>
   obtain⟨b1,o1,rfl,h1⟩:=a6 a hh (by omega);exact⟨b1,o1,rfl,h1⟩
 rw[hk]at E;refine RN 4 E I λa E=>?_;rw[gW]at E;refine RN 2 E I λa E=>?_;refine SS E (ae E (c4 k (.int .u8 b[k].toNat) (by simp[bc,xQ]))) λa E=>?_;refine SX 0 E I (by have:=b[k].toNat_lt;exact ia (by omega) (by omega)) λa E=>?_;refine RT 1 E I ?_;refine⟨?_,I.sub⟩;rw[mg,ak (by omega),hk,Int.toNat_natCast,bl,aD xQ];rfl
theorem nA {c:Nat}{v:Int}(h:dO g)(hv:dp v):dO (cg g c v):=λd hd=>by
 simp only[cg];split
 ·exact hv
 ·exact h d hd
def qg (x:Int)(m:Nat):Prop:=∃ n:Nat,x=(n:Int)∧n≤m
def lL (x:Int)(m:Nat):Prop:=∃ n:Nat,x=(n:Int)∧n<m
theorem qg.of {x:Int}{m:Nat}(h:0≤x∧x≤m):qg x m:=⟨x.toNat,by omega,by omega⟩
theorem lL.of {x:Int}{m:Nat}(h:0≤x∧x<m):lL x m:=⟨x.toNat,by omega,by omega⟩
theorem VY {M:xP W t ad uc fs J}{m:Nat}(I:U W w (aa gl 336 (hG p aq cO t ad fr adP b.length cP aU)::J g bad::L))(ho:eY m o)(h0:o.code≠0)(h9:o.code≠9)(e9:o.code≠10)(Ji:o.code≠13)
   (aG:p.title.size≤1000000000) (hb:b.length≤1099511627776) (hp:∀ w',U W w' L→aT w' adP b.length b) :
   Calls prog 230 #[pt gl,.agg (dN o).toArray] w λe w'=>e=.returned (.int .i32 (jA p fr b g o))∧U W w' (aa gl 336 (hG p aq cO t ad fr adP b.length cP aU)::J g bad::L):=by
 have hg:dO g:=M.ok _ _ g bad I.tail;have qh:=ho;simp only[eY,eX]at qh;have oe:o.code≠1→o.code≠15→lL o.b 32:=λh1 h2=>lL.of (by omega);have jX:3≤o.code∧o.code≤8→lL o.c 32:=λh=>lL.of (by omega);have q8:o.code≠1→o.code≠2→o.code≠11→o.code≠12→o.code≠14→o.code≠15→3≤o.code∧o.code≤8:=by omega
 clear qh;refine EN func230 ntmps230 rfl rfl λa E=>?_;refine BX 1 E I λb3 a w E I=>?_;change U W w (aa b3 114 (dN o)::_) at I;refine IF 8 E I (λaj a E=>?_) λaj a E=>?_
 ·
  refine RN 3 E I λa E=>?_;refine SS E (gb E underlying3 underlying21) λa E=>?_;refine RT 1 E I ?_;exact⟨by simp[jA,aj];rfl,I.sub⟩
 refine IF 3 E I (λao a E=>?_) λao a E=>?_
 ·
  refine RN 1 E I λa E=>?_;obtain⟨bA,dV,og⟩:=oe (by omega) (by omega);refine bP 0 [5] [0,1,2,4,3003,1005,1006,7] E I λa w E I hH hC=>?_;refine RH 6 E I hH hC λa E=>?_;rw[dV]at E;refine jx E rfl M.ob M.oc rfl (M.get _ _ g bad bA og (I.pick (J g bad))) (by rfl) ?_;clear E I;rintro e w ⟨rfl,I⟩;refine⟨_,rfl,λa E=>?_⟩;refine RN 1 E I λa E=>?_;refine RT 0 E I ?_;exact⟨by simp[jA,ao,dV],I.sub⟩
 refine IF 3 E I (λay a E=>?_) λay a E=>?_
 ·
  refine RN 1 E I λa E=>?_;obtain⟨bA,dV,og⟩:=oe (by omega) (by omega);refine bP 0 [6] [0,1,2,3,5,3004,1006,1007,1008,9] E I λa w E I hH hC=>?_;refine RH 7 E I hH hC λa E=>?_;rw[dV]at E;refine jx E rfl M.ob M.oc rfl (M.get _ _ g bad bA og (I.pick (J g bad))) (by rfl) ?_;clear E I;rintro e w ⟨rfl,I⟩;refine⟨_,rfl,λa E=>?_⟩;refine CL 0 E I (VX (I.jI gl) (hg bA og) hb (λw' h=>hp w' h.sub)) λa w E I=>?_;refine RN 1 E I λa E=>?_;refine RT 0 E I ?_;exact⟨by simp[jA,ay,dV],I.sub⟩
 refine IF 3 E I (λbk a E=>?_) λbk a E=>?_
 ·
  refine aX 1 (λw0 w'=>Rd w' gl 0 (hG p aq cO t ad fr adP b.length cP aU)∧Rd w' b3 0 (dN o)) [7,9,10,11] [0,1,2,4,5,6,8,3003,12,13,3007,1009,1010,1011,1014,15] E I λa w E I hH=>?_;obtain⟨bA,dV,og⟩:=oe (by omega) (by omega);have xR:=xE (g bA);have jB:Rd w gl 0 (hG p aq cO t ad fr adP b.length cP aU):=I.ai;have gC:Rd w b3 0 (dN o):=I.ai;have hC:=And.intro jB gC;refine RH 7 E I hH hC λa E=>?_;refine QH E (λw hc=>ae E (hc.1 2 _ rfl)) hC λa E=>?_;refine RH 2 E I hH hC λa E=>?_;refine QH E (λw hc=>ae E (hc.1 2 _ rfl)) hC λa E=>?_;refine RH 0 E I hH hC λa E=>?_;refine SS E (ae E (hC.2 2 _ rfl)) λa E=>?_;rw[dV]at E;refine RH 0 E I hH hC λa E=>?_;refine jx E rfl M.ob M.oc rfl (M.get _ _ g bad bA og (I.pick (J g bad))) (by rfl) ?_;clear E I;rintro e w ⟨rfl,I⟩;refine⟨_,rfl,λa E=>?_⟩;replace hC:=hH.at w (And.intro I.ai I.ai);refine RH 0 E I hH hC λa E=>?_;refine CL 0 E I (Jo I (hg bA og)) λa w E I=>?_;replace hC:=hH.at w (And.intro I.ai I.ai);refine RH 0 E I hH hC λa E=>?_;refine jx E rfl M.ob M.oc rfl (M.get _ _ g bad (ku (g bA)) xR (I.pick (J g bad))) (by rfl) ?_;clear E I;rintro e w ⟨rfl,I⟩;refine⟨_,rfl,λa E=>?_⟩;refine RN 1 E I λa E=>?_;refine RT 0 E I ?_;exact⟨by simp[jA,bk,dV],I.sub⟩
 refine IF 3 E I (λbL a E=>?_) λbL a E=>?_
 ·
  refine aX 1 (λw0 w'=>Rd w' gl 0 (hG p aq cO t ad fr adP b.length cP aU)∧Rd w' b3 0 (dN o)) [8,10,11,12] [0,1,2,3,5,6,7,9,3004,3008,1010,1011,1012,1013,14] E I λa w E I hH=>?_;obtain⟨bA,dV,og⟩:=oe (by omega) (by omega);have Jq:=hg bA og;have VZ:=Jq;simp only[dp]at VZ;have jB:Rd w gl 0 (hG p aq cO t ad fr adP b.length cP aU):=I.ai;have gC:Rd w b3 0 (dN o):=I.ai;have hC:=And.intro jB gC;refine RH 8 E I hH hC λa E=>?_;refine QH E (λw hc=>ae E (hc.1 0 _ rfl)) hC λa E=>?_;refine QH E (λw hc=>ae E (hc.1 2 _ rfl)) hC λa E=>?_;refine RH 0 E I hH hC λa E=>?_;refine SS E (ae E (hC.2 2 _ rfl)) λa E=>?_;rw[dV]at E;refine RH 0 E I hH hC λa E=>?_;refine jx E rfl M.ob M.oc rfl (M.get _ _ g bad bA og (I.pick (J g bad))) (by rfl) ?_;clear E I;rintro e w ⟨rfl,I⟩;refine⟨_,rfl,λa E=>?_⟩;replace hC:=hH.at w (And.intro I.ai I.ai);refine RH 0 E I hH hC λa E=>?_;refine SX 0 E I (by rw[fY (by omega) (by omega)]) λa E=>?_;refine RH 0 E I hH hC λa E=>?_;refine CL 0 E I (VW I (by omega) Jq) λa w E I=>?_;refine RN 1 E I λa E=>?_;refine RT 0 E I ?_;exact⟨by simp[jA,bL,dV],I.sub⟩
 refine IF 3 E I (λeO a E=>?_) λeO a E=>?_
 ·
  refine RN 5 E I λa E=>?_;refine SS E (gb E underlying3 underlying100) λa E=>?_;refine RN 0 E I λa E=>?_;refine SS E (gb E underlying100 underlying21) λa E=>?_;refine RT 1 E I ?_;refine⟨?_,I.sub⟩;have e:IntKind.i32.wrap (IntKind.u32.wrap fr)=hZ fr:=by
   simp only[hZ,IntKind.wrap,IntKind.signed,IntKind.bits];have:fr%4294967296%4294967296=fr%4294967296:=Int.emod_emod_of_dvd _ (Int.dvd_refl _);simp[this]
  simp[jA,eO,e]
 refine RN 1 E I λa E=>?_;obtain⟨bA,dV,og⟩:=oe (by omega) (by omega);obtain⟨tI,pf,V0⟩:=jX (q8 aj ao ay bk bL eO);refine bP 0 [5] [0,1,2,4,3003,1005,1006,7] E I λa w E I hH hC=>?_;refine RH 6 E I hH hC λa E=>?_;rw[dV]at E;refine jx E rfl M.ob M.oc rfl (M.get _ _ g bad bA og (I.pick (J g bad))) (by rfl) ?_;clear E I;rintro e w ⟨rfl,I⟩;refine⟨_,rfl,λa E=>?_⟩;refine RN 1 E I λa E=>?_;refine aX 1 (λw0 w'=>Rd w' gl 0 (hG p aq cO t ad fr adP b.length cP aU)∧Rd w' b3 0 (dN o)) [6,8,9] [0,2,3,4,5,7,3001,3006,1008,1009,1010,11] E I λa w E I hH=>?_;have jB:Rd w gl 0 (hG p aq cO t ad fr adP b.length cP aU):=I.ai;have gC:Rd w b3 0 (dN o):=I.ai;have hC:=And.intro jB gC;refine RH 6 E I hH hC λa E=>?_;refine QH E (λw hc=>ae E (hc.2 0 _ rfl)) hC λa E=>?_;refine QH E (λw hc=>ae E (hc.1 2 _ rfl)) hC λa E=>?_;refine RH 0 E I hH hC λa E=>?_;refine SS E (ae E (hC.2 3 _ rfl)) λa E=>?_;rw[pf]at E;refine RH 0 E I hH hC λa E=>?_;refine jx E rfl M.ob M.oc rfl (M.get _ _ g bad tI V0 (I.pick (J g bad))) (by rfl) ?_;clear E I;rintro e w ⟨rfl,I⟩;refine⟨_,rfl,λa E=>?_⟩;replace hC:=hH.at w (And.intro I.ai I.ai);refine RH 0 E I hH hC λa E=>?_;refine CL 0 E I (VV I) λa w E I=>?_;refine RN 1 E I λa E=>?_;refine RT 0 E I ?_;exact⟨by simp[jA,aj,ao,ay,bk,bL,eO,dV,pf],I.sub⟩
theorem Jr (s:ByteArray)(n:Int):dp (mO s n):=by
 have hb:∀ pos,∀ x∈dZ s pos,x.1<1114112:=by
  have h:∀ k pos,s.size-pos≤k→∀ x∈dZ s pos,x.1<1114112:=by
   intro k
   induction k with
   | zero=>intro pos h x hx;rw[q4 (by omega)]at hx;simp at hx
   | succ k ih =>
    intro pos h x hx;by_cases hp:pos<s.size
    ·rw[q3 hp]at hx;rcases List.mem_cons.1 hx with rfl | hx
     ·exact UR s pos
     ·have:=(tU s pos).1;exact ih (dW s pos) (by rw[dW,ak hp];omega) x hx
    ·rw[q4 hp]at hx;simp at hx
  exact λpos=>h _ pos (bd _)
 simp only[mO,dp];split
 ·cases hx:(dZ s 0)[n.toNat]? with
  | none=>simp
  | some x =>
   have:=hb 0 x (bG hx);simp only[Option.map_some,Option.getD_some];omega
 ·omega
theorem Jt (k x y:Int):dp (iO k x y):=by
 unfold iO;have h1:dp 1:=by simp[dp]
 have h0:dp 0:=by simp[dp]
 repeat' split
 all_goals first | exact xF _ | exact h1 | exact h0
theorem Ju (b:List UInt8)(x:Int):dp (mg b x):=by
 simp only[mg,dp];split
 ·have:=(b.getD x.toNat 0).toNat_lt;omega
 ·omega
theorem Jx {m:Int}(hg:dO g)(ho:eY m o)(h9:o.code≠9)(e9:o.code≠10):dp (jA p fr b g o):=by
 simp only[eY,eX]at ho;have hb:o.code≠1→o.code≠15→o.code≠0→o.b.toNat<32:=λh1 h2 h3=>by omega
 have h0:o.code=0→o.b.toNat<32:=λh=>by omega
 unfold jA;split
 ·exact xF _
 ·split
  ·exact hg _ (hb (by omega) (by omega) (by omega))
  ·split
   ·exact Ju _ _
   ·split
    ·exact hg _ (xE _)
    ·split
     ·exact Jr _ _
     ·split
      ·exact xF _
      ·exact Jt _ _ _
set_option maxHeartbeats 4000000 in
theorem V1 {M:xP W t ad uc fs J}(I:U W w (aa gl 336 (hG p aq cO t ad fr adP b.length cP aU)::J g bad::aA W p aq cO::L))(a6:∀ o∈p.ops,eY p.ops.length o)(e0:p.ops[aU]?=some o)
   (aG:p.title.size≤1000000000) (dU:p.ops.length≤1000000000) (hb:b.length≤1099511627776) (hp:∀ w',U W w' L→aT w' adP b.length b) :
   Calls prog 203 #[pt gl] w λe w'=>∃ (g':Nat→Int) (xS:Nat) (fm r:Bool),e=.returned (.bool r)∧(fm=false→bad=false∧ei p fr b g aU o=(g',xS,r))∧xS≤p.ops.length ∧
    U W w' (aa gl 336 (hG p aq cO t ad fr adP b.length cP xS)::J g' fm::aA W p aq cO::L):=by
 have hg:dO g:=M.ok _ _ g bad I.tail;have ho:=a6 o (bG e0);have aeV:=(a2.1 e0).1;have qh:=ho;simp only[eY,eX]at qh;have DI:o.code=9→qg o.a p.ops.length:=λh=>qg.of (by omega);have jY:o.code≠9→o.code≠0→lL o.a 32:=λh h2=>lL.of (by omega);have DJ:o.code=10→qg o.b p.ops.length:=λh=>qg.of (by omega);have V2:o.code=13→lL o.b 32:=λh=>lL.of (by omega);clear qh;refine EN func203 ntmps203 rfl rfl λa E=>?_;refine bP 3 [8,11] [0,1,2,3,5,6,7,3004,3008,9,3010,1011,1012] E I λa w E I hH hC=>?_;obtain⟨kH,oo,gW,gC⟩:=I.q6 aq (by omega);rw[gW]at I;replace hH:=Hd.fX I;refine RH 10 E I hH hC λa E=>?_;refine QH E (λw hc=>bR E underlying114 rfl Ty.t114 (hc.rd (vM gC e0))) hC λa E=>?_;refine RH 0 E I hH hC λa E=>?_;refine eU E rfl I Ty.t114 rfl λb3 a w E I ho=>?_;replace hC:=hC.trans ho;clear ho;refine RH 0 E I hH hC λa E=>?_;refine SA 0 E I λa w E I=>?_;refine RN 0 E I λa E=>?_;rw[← gW]at I;replace E:=E.ab [0,3];refine ST 8 E I (λa w E I=>?_) (hlt:=(by simp[hG]));rw[show ((aU:Int)+1)=((aU+1:Nat):Int) from rfl]at I;change U W w (aa gl 336 (hG p aq cO t ad fr adP b.length cP (aU+1))::_) at I;refine IF 7 E I (λaj a E=>?_) λaj a E=>?_
 ·
  refine RT 2 E I ?_;exact⟨g,aU+1,bad,false,rfl,λh=>⟨h,by rw[ei,ak aj]⟩,by omega,I.sub⟩
 refine IF 3 E I (λao a E=>?_) λao a E=>?_
 ·
  obtain⟨cD,dI,jZ⟩:=DI ao;refine ST 5 E I (λa w E I=>?_) (hlt:=(by simp[hG]));rw[dI]at I;change U W w (aa gl 336 (hG p aq cO t ad fr adP b.length cP cD)::_) at I;refine RT 2 E I ?_;exact⟨g,cD,bad,true,rfl,λh=>⟨h,by rw[ei,ag aj,ak ao,dI];rfl⟩,by omega,I.sub⟩
 refine IF 3 E I (λay a E=>?_) λay a E=>?_
 ·
  refine RN 1 E I λa E=>?_;obtain⟨cD,dI,jZ⟩:=jY ao aj;obtain⟨bA,dV,iA⟩:=DJ ay;refine bP 0 [5] [0,1,2,4,3003,1005,1006,7] E I λa w E I hH hC=>?_;refine RH 6 E I hH hC λa E=>?_;rw[dI]at E;refine jx E rfl M.ob M.oc rfl (M.get _ _ g bad cD jZ (I.pick (J g bad))) (by rfl) ?_;clear E I;rintro e w ⟨rfl,I⟩;refine⟨_,rfl,λa E=>?_⟩;refine RN 1 E I λa E=>?_;refine IF 0 E I (λbk a E=>?_) λbk a E=>?_
  ·
   refine ST 5 E I (λa w E I=>?_) (hlt:=(by simp[hG]));rw[dV]at I;change U W w (aa gl 336 (hG p aq cO t ad fr adP b.length cP bA)::_) at I;refine RT 2 E I ?_;exact⟨g,bA,bad,true,rfl,λh=>⟨h,by rw[ei,ag aj,ag ao,ak ay,dI,dV,Int.toNat_natCast,ak bk];rfl⟩,by omega,I.sub⟩
  refine RT 2 E I ?_;exact⟨g,aU+1,bad,true,rfl,λh=>⟨h,by rw[ei,ag aj,ag ao,ak ay,dI,Int.toNat_natCast,ag bk]⟩,by omega,I.sub⟩
 refine IF 3 E I (λbL a E=>?_) λbL a E=>?_
 ·
  refine RN 1 E I λa E=>?_;obtain⟨cD,dI,jZ⟩:=jY ao aj;obtain⟨bA,dV,iA⟩:=V2 bL;refine bP 0 [5] [0,1,2,4,3003,1005,1006,1007,8] E I λa w E I hH hC=>?_;refine RH 6 E I hH hC λa E=>?_;rw[dI]at E;refine jx E rfl M.ob M.oc rfl (M.get _ _ g bad cD jZ (I.pick (J g bad))) (by rfl) ?_;clear E I;rintro e w ⟨rfl,I⟩;refine⟨_,rfl,λa E=>?_⟩;refine CL 0 E I (Jo I (hg cD jZ)) λa w E I=>?_;refine RN 1 E I λa E=>?_;refine aX 0 (λw0 w'=>Rd w' gl 0 (hG p aq cO t ad fr adP b.length cP (aU+1))∧Rd w' b3 0 (dN o)) [8,10,11] [0,1,2,4,5,6,7,9,3003,12,13,3008,1010,1011,1014] E I λa w E I hH=>?_;have jB:Rd w gl 0 (hG p aq cO t ad fr adP b.length cP (aU+1)):=I.ai;have j0:Rd w b3 0 (dN o):=I.ai;have hC:=And.intro jB j0;refine RH 8 E I hH hC λa E=>?_;refine QH E (λw hc=>ae E (hc.1 2 _ rfl)) hC λa E=>?_;refine RH 2 E I hH hC λa E=>?_;refine QH E (λw hc=>ae E (hc.1 2 _ rfl)) hC λa E=>?_;refine RH 0 E I hH hC λa E=>?_;refine SS E (ae E (hC.2 2 _ rfl)) λa E=>?_;rw[dV]at E;refine RH 0 E I hH hC λa E=>?_;refine jx E rfl M.ob M.oc rfl (M.get _ _ g bad bA iA (I.pick (J g bad))) (by rfl) ?_;clear E I;rintro e w ⟨rfl,I⟩;refine⟨_,rfl,λa E=>?_⟩;replace hC:=hH.at w (And.intro I.ai I.ai);refine RH 0 E I hH hC λa E=>?_;refine jx E rfl M.zX M.vz rfl (M.set _ _ g bad (ku (g cD)) (g bA) (xE _) (hg bA iA) (I.pick (J g bad))) (by rfl) ?_;clear E I;rintro e w ⟨g',fm,rfl,xJ,I⟩;refine⟨_,rfl,λa E=>?_⟩;refine RT 2 E I ?_;refine⟨g',aU+1,fm,true,rfl,λh=>?_,by omega,I.sub⟩;obtain⟨_,h1,h2⟩:=xJ.resolve_left (λh3=>by rw[h]at h3;cases h3.1);exact⟨h1,by rw[ei,ag aj,ag ao,ag ay,ak bL,dI,dV,Int.toNat_natCast,Int.toNat_natCast,h2]⟩
 refine aX 0 (λw0 w'=>Rd w' gl 0 (hG p aq cO t ad fr adP b.length cP (aU+1))∧Rd w' b3 0 (dN o)) [5,7,8] [0,1,2,4,6,3003,9,10,3005,1007,1008,1011] E I λa w E I hH=>?_;obtain⟨cD,dI,jZ⟩:=jY ao aj;have jB:Rd w gl 0 (hG p aq cO t ad fr adP b.length cP (aU+1)):=I.ai;have j0:Rd w b3 0 (dN o):=I.ai;have hC:=And.intro jB j0;refine RH 5 E I hH hC λa E=>?_;refine QH E (λw hc=>ae E (hc.1 2 _ rfl)) hC λa E=>?_;refine RH 2 E I hH hC λa E=>?_;refine QH E (λw hc=>ae E (hc.2 1 _ rfl)) hC λa E=>?_;rw[dI]at E;refine RH 0 E I hH hC λa E=>?_;refine SS E (bR E underlying114 rfl Ty.t114 (hC.2)) λa E=>?_;refine RH 0 E I hH hC λa E=>?_;refine CL 0 E I (VY (M:=M) (L:=aa b3 114 (dN o)::aA W p aq cO::L) (I.sub (M:=aa gl 336 (hG p aq cO t ad fr adP b.length cP (aU+1))::J g bad::aa b3 114 (dN o)::aA W p aq cO::L)) ho aj ao ay bL aG hb (λw' h=>hp w' h.sub)) λa w E I=>?_;replace hC:=hH.at w (And.intro I.ai I.ai);refine RH 0 E I hH hC λa E=>?_;refine jx E rfl M.zX M.vz rfl (M.set _ _ g bad cD (jA p fr b g o) jZ (Jx hg ho ao ay) (I.pick (J g bad))) (by rfl) ?_;clear E I;rintro e w ⟨g',fm,rfl,xJ,I⟩;refine⟨_,rfl,λa E=>?_⟩;refine RT 2 E I ?_;refine⟨g',aU+1,fm,true,rfl,λh=>?_,by omega,I.sub⟩;obtain⟨_,h1,h2⟩:=xJ.resolve_left (λh3=>by rw[h]at h3;cases h3.1);exact⟨h1,by rw[ei,ag aj,ag ao,ag ay,ag bL,dI,Int.toNat_natCast,h2]⟩
theorem DK {n:Nat}(h:p.ops[aU]?=some o):qc p fr b (n+1) g aU=if (ei p fr b g aU o).2.2 then qc p fr b n (ei p fr b g aU o).1 (ei p fr b g aU o).2.1 else (ei p fr b g aU o).1:=by
 rw[qc];simp only[h]
theorem DL {n:Nat}(h:p.ops.length≤aU):qc p fr b n g aU=g:=by
 cases n with
 | zero=>rfl
 | succ n=>rw[qc];simp only[iU h]
set_option maxHeartbeats 4000000 in
theorem Jy {M:xP W t ad uc fs J}(I:U W w (J g bad::aA W p aq cO::L))(a6:di p)(aG:p.title.size≤1000000000)(hb:b.length≤1099511627776)(hp:∀ w',U W w' L→aT w' adP b.length b) :
   Calls prog 174 #[.agg (bO p aq cO).toArray,.iface t (.pointer (some ad)),.int .i64 fr,.slice adP b.length cP] w λe w'=>∃ (g':Nat→Int) (fm:Bool) (n:Int),e=.returned (.int .i64 n)∧(fm=false→bad=false∧g'=eZ p fr b g) ∧
    U W w' (J g' fm::aA W p aq cO::L):=by
 have dU:p.ops.length≤64:=a6.1.2.2.1;refine EN func174 ntmps174 rfl rfl λa E=>?_;refine BX 1 E I λb4 a w E I=>?_;change U W w (aa b4 45 (bO p aq cO)::_) at I;refine RN 6 E I λa E=>?_;replace E:=E.aM 13;refine bh 1 E I (DH (I.pick (aA W p aq cO)) aG (by omega)) λr a w E ⟨hr,I⟩=>?_;rw[hr.2 a6]at E;refine RN 1 E I λa E=>?_;rw[show (!true)=false from rfl]at E;refine RN 1 E I λa E=>?_;replace E:=E.aM 17;refine RN 3 E I λa E=>?_;change Fr a 42 ((18,.agg (List.toArray [.string p.title,.slice aq p.ops.length cO]))::_) at E;refine BX 4 E I λxT a w E I=>?_;change U W w (aa xT 336 (hG p aq cO t ad fr adP b.length cP 0)::_) at I;refine RN 4 E I λa E=>?_;refine aO (λμ a w=>∃ (n aU:Nat) (g':Nat→Int) (fm:Bool),(μ=200-n∧n≤200∧aU≤p.ops.length∧(fm=false→bad=false∧qc p fr b (200-n) g' aU=eZ p fr b g))∧Fr a 42 [(4,pt b4),(9,pt xT),(10,.int .i64 n)]∧U W w (aa xT 336 (hG p aq cO t ad fr adP b.length cP aU)::aa b4 45 (bO p aq cO)::J g' fm::aA W p aq cO::L)) (200) (⟨0,0,g,bad,⟨by simp,by simp,by simp,λh=>⟨h,rfl⟩⟩,E.ab [4,9,10],I.sub⟩) ?_;clear E I;rintro μ a w ⟨n,aU,g',fm,⟨rfl,hn,e0,oh⟩,E,I⟩;refine bP 2 [8,9] [0,1,2,3,4,5,7,3006,1008,1009,10,11] E I λa w E I hH hC=>?_;refine RH 3 E I hH hC λa E=>?_;refine E.by (s:=26) (λbD E=>?_) (λbD E=>?_)
 ·
  refine RH 9 E I hH hC λa E=>?_;refine IF 0 E I (λao a E=>?_) λao a E=>?_
  ·
   obtain⟨o,ho⟩:∃ o,p.ops[aU]?=some o:=⟨_,aD (by omega)⟩;have aS:=DK (p:=p) (fr:=fr) (b:=b) (g:=g') (n:=200-(n+1)) ho;rw[show 200-(n+1)+1=200-n from by omega]at aS;refine jO 6 E I (V1 (M:=M) (L:=aa b4 45 (bO p aq cO)::L) (I.sub (M:=aa xT 336 (hG p aq cO t ad fr adP b.length cP aU)::J g' fm::aA W p aq cO::aa b4 45 (bO p aq cO)::L)) a6.2 ho aG (by omega) hb (λw' h=>hp w' h.tail)) ?_;clear E I;rintro e w ⟨jy,xS,zY,r2,rfl,fL,V3,I⟩;refine⟨_,rfl,λa E=>?_⟩;refine IF 1 E I (λay a E=>?_) λay a E=>?_
   ·
    have vE:r2=false:=by simpa using ay
    have DM:zY=false→bad=false∧jy=eZ p fr b g:=λh=>by
     obtain⟨h1,h2⟩:=fL h;obtain⟨h3,h4⟩:=oh h1;refine⟨h3,?_⟩;rw[aS,h2,vE]at h4;exact h4
    refine RT 3 E I ?_;exact⟨jy,zY,_,rfl,DM,I.sub⟩
   have pd:r2=true:=by simpa using ay
   refine RN 0 E I λa E=>?_;refine⟨200-(n+1),by omega,n+1,xS,jy,zY,⟨rfl,by omega,V3,λh=>?_⟩,E.ab [4,9,10],I.sub⟩;obtain⟨h1,h2⟩:=fL h;obtain⟨h3,h4⟩:=oh h1;refine⟨h3,?_⟩;rw[aS,h2,pd]at h4;exact h4
  refine RT 3 E I ?_;refine⟨g',fm,_,rfl,λh=>?_,I.sub⟩;obtain⟨h3,h4⟩:=oh h;rw[DL (by omega)]at h4;exact⟨h3,h4⟩
 have pg:n=200:=by omega
 refine RH 9 E I hH hC λa E=>?_;refine RT 4 E I ?_;refine⟨g',fm,_,rfl,λh=>?_,I.sub⟩;obtain⟨h3,h4⟩:=oh h;rw[pg]at h4;exact⟨h3,h4⟩
end
end
section
def distinct:List Nat→Nat
 | []=>0
 | x::l=>distinct l+if x∈l then 0 else 1
def kR (l:List aC):List Nat:=l.flatMap λx=>[x.p 0,x.p 1,x.p 2,x.p 3]
theorem V4 {l:List aC}{p:Nat}:p∈kR l↔0<cQ l p:=by
 induction l with
 | nil=>simp[kR,cQ]
 | cons x l ih =>
  rw[su];have h1:kR (x::l)=[x.p 0,x.p 1,x.p 2,x.p 3]++kR l:=rfl;rw[h1,eN,ih];constructor
  ·rintro (h | h)
   ·have h2 : 0 < g9 x p := Iu.2 (by
     simp at h;rcases h with h | h | h | h
     ·exact⟨0,by omega,h.symm⟩
     ·exact⟨1,by omega,h.symm⟩
     ·exact⟨2,by omega,h.symm⟩
     ·exact⟨3,by omega,h.symm⟩)
    omega
   ·omega
  ·intro h;by_cases h2:0<g9 x p
   ·left;obtain⟨k,hk,rfl⟩:=Iu.1 h2;rcases (by omega:k=0∨k=1∨k=2∨k=3) with rfl | rfl | rfl | rfl <;> simp
   ·right;omega
theorem V5 (n:Nat)(f:Nat→Bool)(x:Nat)(hx:x<n)(h0:f x=false):(List.range n).countP (λp=>p==x||f p)=(List.range n).countP f+1:=by
 induction n with
 | zero=>omega
 | succ n ih =>
  rw[range_succ,List.countP_append,List.countP_append,List.countP_singleton,List.countP_singleton];by_cases hn:x=n
  ·subst hn;have:(List.range x).countP (λp=>p==x||f p)=(List.range x).countP f:=countP_congr λp hp=>by
    have:p<x:=mem_range.1 hp;have h2:(p==x)=false:=by simp;omega
    simp[h2]
   rw[this,h0];simp
  ·have h2:(n==x)=false:=by simp;omega
   rw[ih (by omega),h2];simp;omega
theorem Jz (n:Nat):∀ l:List Nat,(∀ p∈l,p<n)→(List.range n).countP (λp=>decide (p∈l))=distinct l
 | [],_=>by simp[distinct]
 | x::l,h=>by
  have ih:=Jz n l λp hp=>h p (gJ _ hp);rw[distinct,← ih];by_cases hx:x∈l
  ·rw[ak hx,Nat.add_zero];refine countP_congr λp _=>?_;simp only[List.mem_cons,decide_eq_true_eq];exact⟨λhp=>by rcases hp with rfl | hp;exact hx;exact hp,λhp=>.inr hp⟩
  ·rw[ag hx];have:=V5 n (λp=>decide (p∈l)) x (h x mem_cons_self) (by simp[hx]);rw[← this];refine countP_congr λp _=>?_;simp
theorem V6 {A:Sn}(h:∀ x∈A.ar,∀ k,k<4→x.p k<A.room):A.used=distinct (kR A.ar):=by
 rw[← Jz A.room (kR A.ar) (λp hp=>?_)]
 ·rw[Sn.used];refine countP_congr λp _=>?_;simp[V4]
 ·simp only[kR,List.mem_flatMap]at hp;obtain⟨x,hx,hp⟩:=hp;simp at hp;rcases hp with rfl | rfl | rfl | rfl <;> exact h x hx _ (by omega)
section
variable {W w:World}{L R:List SP}{q r:Nat}{A:Sn}
class vU (L:List SP)(q:Nat)(r:outParam Nat)(A:outParam Sn)(R:outParam (List SP)):Prop where perm:L.Perm (ax q r A::R)
instance vU.head {L q r A}:vU (ax q r A::L) q r A L:=⟨List.Perm.refl _⟩
instance (priority:=low) vU.tail {B L q r A R}[h:vU L q r A R]:vU (B::L) q r A (B::R):=⟨(List.Perm.cons B h.perm).trans (List.Perm.swap _ _ _)⟩
theorem U.store (I:U W w L)(q:Nat)[k:vU L q r A R]:U W w (ax q r A::R):=I.perm k.perm
theorem ax.facts (I:U W w (ax q r A::L)):WF A∧∀ x∈A.ar,∀ k,k<4→x.p k<A.room:=by
 obtain⟨b,m,ps,xs,h1,hw,hr,I⟩:=ax.open I;exact⟨hw,λx hx k hk=>by rw[← hr.len];exact (hr.live hx hk).1⟩
theorem ax.used (I:U W w (ax q r A::L)):A.used=distinct (kR A.ar):=V6 (ax.facts I).2
end
end
section
theorem V7 (l:List aC)(p:Nat):(kR l).count p=cQ l p:=by
 induction l with
 | nil=>rfl
 | cons x l ih =>
  have h1:kR (x::l)=[x.p 0,x.p 1,x.p 2,x.p 3]++kR l:=rfl;rw[h1,List.count_append,ih,su,tL];simp only[List.count_cons,List.count_nil,beq_iff_eq];omega
theorem JA (p:Nat):∀ l:List Nat,distinct l+(l.count p-1)≤l.length
 | []=>by simp[distinct]
 | x::l=>by
  have ih:=JA p l;rw[distinct,List.count_cons,eL];by_cases hx:x=p
  ·subst hx;by_cases hm:x∈l
   ·have:=List.count_pos_iff.2 hm;simp[hm];omega
   ·have:=List.count_eq_zero.2 hm;simp[hm];omega
  ·have h1:(x==p)=false:=by simpa using hx
   simp only[h1,Bool.false_eq_true,if_false,Nat.add_zero];split <;> omega
theorem V8 (l:List aC):(kR l).length=4*l.length:=by
 induction l with
 | nil=>rfl
 | cons x l ih =>
  have h1:kR (x::l)=[x.p 0,x.p 1,x.p 2,x.p 3]++kR l:=rfl;rw[h1,aL,ih,eL];simp;omega
section
variable {W w:World}{L:List SP}{q r i bc:Nat}{A:Sn}{x px:aC}
theorem ax.shared (I:U W w (ax q r A::L)){p:Nat}(h:1<cQ A.ar p):A.used<4*A.ar.length:=by
 have h1:=JA p (kR A.ar);rw[← ax.used I,V7,V8]at h1;omega
theorem V9 {c:Nat}{v:Int}(I:U W w (ax q r A::L))(hx:A.ar[i]?=some x)(hc:c<32) :
   Calls prog 346 #[pt q,.int .i64 x.id,.int .i64 c,.int .i32 v] w λe w'=>∃ (ok:Bool) (p':Nat→Nat),e=.returned (.bool ok)∧(ok=false→¬ 4*A.ar.length≤A.room) ∧
    ((ok=true∧U W w' (ax q r { A with ar:=A.ar.set i { x with g:=cg x.g c v,p:=p' } }::L))∨(ok=false∧U W w' (ax q r A::L))):=by
 have oj:c/8<4:=by omega
 by_cases h1:1<cQ A.ar (x.p (c/8))
 ·by_cases hu:A.used<A.room
  ·exact (Uf (v:=v) I hx hc h1 hu).mono λe w' ⟨f,h2,_,I⟩=>⟨true,λj=>if j=c/8 then f else x.p j,h2,λh=>(by cases h),.inl ⟨rfl,I⟩⟩
  ·have hsh:=ax.shared I h1;exact (Ug (v:=v) I hx hc h1 (by omega)).mono λe w' ⟨h2,I⟩=>⟨false,x.p,h2,λ_=>by omega,.inr ⟨rfl,I⟩⟩
 ·have h3 : cQ A.ar (x.p (c / 8)) = 1 := by
   have h4:=tM (bG hx) (x.p (c/8));have h5:=sr (x:=x) oj;omega
  exact (Ud (v:=v) I hx hc h3).mono λe w' ⟨h2,I⟩=>⟨true,x.p,h2,λh=>(by cases h),.inl ⟨rfl,I⟩⟩
theorem Wa {g:Nat→Int}{c:Nat}{v:Int}(h:dO g)(hv:dp v):dO (cg g c v):=λj hj=>by
 simp only[cg];split
 ·exact hv
 ·exact h j hj
def Jw (q r bc i:Nat)(A:Sn)(px:aC)(g:Nat→Int)(bad:Bool):SP:=λh=>∃ p':Nat→Nat,(dO g∧(bad=true→¬ 4*A.ar.length≤A.room)) ∧
 cj [aa bc 307 [pt q,.int .i64 px.id,.bool bad],ax q r { A with ar:=A.ar.set i ⟨px.id,px.refs,g,p'⟩ }] h
theorem Jw.open {g:Nat→Int}{bad:Bool}(I:U W w (Jw q r bc i A px g bad::L)):∃ p':Nat→Nat,(dO g∧(bad=true→¬ 4*A.ar.length≤A.room)) ∧
   U W w (aa bc 307 [pt q,.int .i64 px.id,.bool bad]::ax q r { A with ar:=A.ar.set i ⟨px.id,px.refs,g,p'⟩ }::L):=by
 obtain⟨p',h1,h2⟩:=I.jv (ι:=Nat→Nat) (p:=λ_=>dO g∧(bad=true→¬ 4*A.ar.length≤A.room)) (B:=λp' h=>cj [aa bc 307 [pt q,.int .i64 px.id,.bool bad],ax q r { A with ar:=A.ar.set i ⟨px.id,px.refs,g,p'⟩ }] h) (λh ⟨p',h1,h2⟩=>⟨p',h1,h2⟩);exact⟨p',h1,h2.open λ_ h=>h⟩
theorem Jw.close {g:Nat→Int}{bad:Bool}{p':Nat→Nat}(I:U W w (aa bc 307 [pt q,.int .i64 px.id,.bool bad]::ax q r { A with ar:=A.ar.set i ⟨px.id,px.refs,g,p'⟩ }::L))(h1:dO g)(h2:bad=true→¬ 4*A.ar.length≤A.room) :
   U W w (Jw q r bc i A px g bad::L):=U.shut (M:=[_,_]) I (λ_ x=>⟨p',⟨h1,h2⟩,x⟩)
theorem Wb {g:Nat→Int}{bad:Bool}{c:Nat}(hx:i<A.ar.length)(hc:c<32)(I:U W w (Jw q r bc i A px g bad::L)) :
   Calls prog 353 (List.toArray [pt bc,.int .i64 c]) w λe w'=>e=.returned (.int .i32 (g c))∧U W w' (Jw q r bc i A px g bad::L):=by
 obtain⟨p',⟨h1,h2⟩,I⟩:=Jw.open I;refine EN func353 ntmps353 rfl rfl λa E=>?_;refine bP 3 [7] [0,1,2,4,5,6,8,3003,1007,1009,10,11,12,13,14] E I λa w E I hH hC=>?_;refine RH 9 E I hH hC λa E=>?_;refine CL 0 E I (IB (i:=i) (x:=⟨px.id,px.refs,g,p'⟩) (I.store q) (by simp[hx]) hc) λa w E I=>?_;refine RN 5 E I λa E=>?_;refine RT 3 E I ?_;exact⟨rfl,Jw.close (p':=p') I.sub h1 h2⟩
theorem We {g:Nat→Int}{bad:Bool}{c:Nat}{v:Int}(hx:i<A.ar.length)(hc:c<32)(hv:dp v)(I:U W w (Jw q r bc i A px g bad::L)) :
   Calls prog 354 (List.toArray [pt bc,.int .i64 c,.int .i32 v]) w λe w'=>∃ (g':Nat→Int) (fm:Bool),e=.returned (.tuple #[])∧((fm=true∧g'=g)∨(fm=false∧bad=false∧g'=cg g c v))∧U W w' (Jw q r bc i A px g' fm::L):=by
 obtain⟨p',⟨h1,h2⟩,I⟩:=Jw.open I;refine EN func354 ntmps354 rfl rfl λa E=>?_;refine bP 0 [13] [0,1,2,3,1004,5,6,7,8,10,11,12,14,15,3009,1013,1016,17,18,19,20,1021] E I λa w E I hH hC=>?_;refine RH 6 E I hH hC λa E=>?_;refine E.by (s:=11) (λiP E=>?_) (λiP E=>?_)
 ·
  refine RH 15 E I hH hC λa E=>?_;refine ST 0 E I (λa w E I=>?_);refine RT 0 E I ?_;exact⟨g,true,rfl,.inl ⟨rfl,rfl⟩,Jw.close (p':=p') I.sub h1 (λ_=>h2 iP)⟩
 refine RH 10 E I hH hC λa E=>?_;refine aY 0 E I (V9 (i:=i) (x:=⟨px.id,px.refs,g,p'⟩) (v:=v) (I.store q) (by simp[hx]) hc) λok p2 a w E ⟨dm,Wf⟩=>?_;obtain⟨IN,I⟩:(ok=ok)∧U W w (ax q r { A with ar:=A.ar.set i ⟨px.id,px.refs,if ok then cg g c v else g,if ok then p2 else p'⟩ }::aa bc 307 [pt q,.int .i64 px.id,.bool bad]::L):=by
  refine⟨rfl,?_⟩;rcases Wf with ⟨rfl,I⟩ | ⟨rfl,I⟩
  ·simp only[set_set]at I;exact I
  ·exact I
 refine ST 4 E I (λa w E I=>?_);refine RT 0 E I ?_;refine⟨if ok then cg g c v else g,!ok,rfl,?_,Jw.close (p':=if ok then p2 else p') I.sub ?_ (λh=>?_)⟩
 ·cases ok
  ·exact .inl ⟨rfl,rfl⟩
  ·exact .inr ⟨rfl,iP,rfl⟩
 ·cases ok
  ·exact h1
  ·exact Wa h1 hv
 ·have:=dm (by simpa using h);simpa using this
theorem Wg (hx:i<A.ar.length):xP W 305 ⟨bc,0,none⟩ 353 354 (Jw q r bc i A px) where
 ob:=λad w=>by kernel_rfl
 oc:=(by kernel_rfl)
 zX:=λad w=>by kernel_rfl
 vz:=(by kernel_rfl)
 ok:=λw L g bad h=>by obtain⟨_,⟨h1,_⟩,_⟩:=Jw.open h;exact h1
 get:=λw L g bad c hc h=>Wb hx hc h
 set:=λw L g bad c v hc hv h=>We hx hc hv h
end
end
section
abbrev cw (p:Pr)(aq:Option Addr)(cO tq jq sq:Nat)(k:Wk):List Value :=
 [.string p.title,.slice aq p.ops.length cO,pt tq,pt jq,pt sq,.bool k.busy,.int .i64 k.jb,.int .i64 k.je,.int .i64 k.x,.int .i64 k.done,.bool k.mh]
section
variable {W w:World}{L:List SP}{tq jq sq r wb i kk cO:Nat}{aq:Option Addr}{A:Sn}{T:Tr}{J:Js}{k:Wk}{p:Pr}{x:Br}{px:aC}
theorem JB (I:U W w (aa wb 247 (cw p aq cO tq jq sq k)::L)) :
   Calls prog 184 #[pt wb] w λe w'=>e=.returned (.bool k.busy)∧U W w' (aa wb 247 (cw p aq cO tq jq sq k)::L):=by
 refine EN func184 ntmps184 rfl rfl λa E=>?_;refine RN 6 E I λa E=>?_;replace E:=E.eg 5;refine RT 6 E I ?_;exact⟨rfl,I⟩
theorem xU (I:U W w (aa wb 247 (cw p aq cO tq jq sq k)::ax sq r A::L))(hb:k.busy=true) :
   Calls prog 145 #[pt wb] w λe w'=>e=.returned (.bool true)∧U W w' (aa wb 247 (cw p aq cO tq jq sq { k with busy:=false })::ax sq r (A.eo k.x)::L):=by
 refine EN func145 ntmps145 rfl rfl λa E=>?_;refine CL 5 E I (JB I) λa w E I=>?_;rw[hb]at E;refine RN 1 E I λa E=>?_;replace E:=E.aM 5;refine bP 2 [7] [0,1,2,4,5,6,3003,1007,1008] E I λa w E I hH hC=>?_;refine RH 8 E I hH hC λa E=>?_;refine bh 0 E I (zM (I.store sq)) λv a w E I=>?_;refine ST 4 E I (λa w E I=>?_) (hlt:=(by simp[cw]));change U W w (aa wb 247 (cw p aq cO tq jq sq { k with busy:=false })::_) at I;refine RT 2 E I ?_;exact⟨rfl,I.sub⟩
theorem JC (I:U W w (aa wb 247 (cw p aq cO tq jq sq k)::L))(hb:k.busy=false) :
   Calls prog 145 #[pt wb] w λe w'=>e=.returned (.bool false)∧U W w' (aa wb 247 (cw p aq cO tq jq sq k)::L):=by
 refine EN func145 ntmps145 rfl rfl λa E=>?_;refine CL 5 E I (JB I) λa w E I=>?_;rw[hb]at E;refine RN 1 E I λa E=>?_;replace E:=E.eg 5;refine RT 3 E I ?_;exact⟨rfl,I⟩
theorem zZ {id:Int}(I:U W w (Tree tq sq T::L)) :
   Calls prog 143 #[pt tq,.int .i64 id] w λe w'=>∃ (x:Br) (ad:Option Addr) (c:Nat) (ok:Bool),e=.returned (.tuple #[.agg (cc x ad c).toArray,.bool ok])∧((ok=true∧x∈T.l∧(x.id:Int)=id)∨(ok=false∧∀ y∈T.l,(y.id:Int)≠id)) ∧
    U W w' (ca ad x.al.length c x.al::Tree tq sq T::L):=by
 by_cases h:∃ x∈T.l,(x.id:Int)=id
 ·obtain⟨x,hx,rfl⟩:=h;obtain⟨k,hk⟩:=jR.1 hx;exact (xy I hk).mono λe w' ⟨ad,c,h1,I⟩=>⟨x,ad,c,true,h1,.inl ⟨rfl,hx,rfl⟩,I⟩
 ·have hn:∀ y∈T.l,(y.id:Int)≠id:=λy hy e=>h ⟨y,hy,e⟩;exact (UB I hn).mono λe w' ⟨h1,I⟩=>⟨⟨0,0,[],0,0⟩,none,0,false,h1,.inr ⟨rfl,hn⟩,ca.nil I⟩
theorem Wh {id:Nat}(I:U W w (ax sq r A::L))(hx:A.ar[i]?=some px)(bZ:px.id=id)(hb:A.n+1<1099511627776) :
   Calls prog 181 #[pt sq,.int .i64 id] w λe w'=>e=.returned (.tuple #[.int .i64 ((A.last+1:Nat):Int),.bool true])∧U W w' (ax sq r (A.add px.g px.p)::L):=by
 subst bZ;exact IE I hx hb
theorem Wi {d:Nat}{id:Nat}(I:U W w (Tree tq sq T::ax sq r A::L))(hx:T.l[kk]?=some x)(kq:d≤x.al.length)(hp:A.ar[i]?=some px)(bZ:px.id=id) :
   Calls prog 186 #[pt tq,.int .i64 x.id,.int .i64 d,.int .i64 id] w λe w'=>e=.returned (.bool (decide (x.done<d))) ∧
    ((x.done<d∧U W w' (Tree tq sq (T.iz kk x d id)::ax sq r (A.eo x.snap)::L))∨(d≤x.done∧U W w' (Tree tq sq T::ax sq r A::L))):=by
 subst bZ;by_cases h:x.done<d
 ·exact (UI I hx h kq hp).mono λe w' ⟨h1,I⟩=>⟨by rw[h1,dh h],.inl ⟨h,I⟩⟩
 ·exact (UG (d:=(d:Int)) (i:=i) (px:=px) I hx (.inl (by omega))).mono λe w' ⟨h1,I⟩=>⟨by rw[h1,bn h],.inr ⟨by omega,I⟩⟩
theorem Wj {A:Sn}{i:Nat}{px:aC}{g:Nat→Int}{p':Nat→Nat}(hA:WF A)(hB:WF { A with ar:=A.ar.set i ⟨px.id,px.refs,g,p'⟩ })(hi:A.ar[i]?=some px)(hr:px.refs=1) :
   ({ A with ar:=A.ar.set i ⟨px.id,px.refs,g,p'⟩ }:Sn).eo px.id=A.eo px.id:=by
 have hl:=(a2.1 hi).1;rw[xC hA hi,xC (px:=⟨px.id,px.refs,g,p'⟩) hB (i:=i) (by simp[hl])];simp[Sn.drop,hr,eraseIdx_set_eq]
theorem Wl (I:U W w (aa wb 247 (cw p aq cO tq jq sq k)::Tree tq sq T::ax sq r A::bH jq J::L))(hb:k.busy=false)(Wm:∀ x∈T.l,∃ (i:Nat) (px:aC),A.ar[i]?=some px∧px.id=x.snap)(hn:A.n+1<1099511627776) :
   Calls prog 142 #[pt wb] w λe w'=>∃ (z:Bool) (A':Sn) (J':Js) (k':Wk),e=.returned (.bool z)∧lh p A T J k z A' T J' k' ∧
    U W w' (aa wb 247 (cw p aq cO tq jq sq k')::Tree tq sq T::ax sq r A'::bH jq J'::L):=by
 refine EN func142 ntmps142 rfl rfl λa E=>?_;refine CL 7 E I (Vj (I.tX jq)) λa w E I=>?_;refine AL 3 E I λb3 a w E I=>?_;refine SA 0 E I λa w E I=>?_;refine IF 5 E I (λaj a E=>?_) λaj a E=>?_
 ·
  obtain rfl:J=[]:=by simpa using aj
  change U W w (aa b3 245 [.int .i64 0,.int .i64 0]::bH jq []::_) at I;refine RT 2 E I ?_;exact⟨false,A,[],k,rfl,.idle hb rfl,I.sub⟩
 obtain⟨j,J',rfl⟩:∃ j J',J=j::J':=by
  cases J with
  | nil=>simp at aj
  | cons j J'=>exact⟨j,J',rfl⟩
 change U W w (aa b3 245 [.int .i64 j.1,.int .i64 j.2]::bH jq J'::_) at I;replace E:=E.ab [0,3];clear aj;refine RN 0 E I λa E=>?_;refine b7 (M:=λa w=>∃ (b5:Nat) (x:Br) (ad:Option Addr) (c:Nat) (ok:Bool),((ok=true∧x∈T.l∧(x.id:Int)=j.1)∨(ok=false∧∀ y∈T.l,(y.id:Int)≠j.1))∧Fr a 85 [(0,pt wb),(3,pt b3),(5,pt b5),(6,.bool ok)]∧U W w (aa b5 238 (cc x ad c)::aa b3 245 [.int .i64 j.1,.int .i64 j.2]::bH jq J'::aa wb 247 (cw p aq cO tq jq sq k)::Tree tq sq T::ax sq r A::L)) ?_ ?_
 ·
  refine aX 0 (λw0 w'=>Rd w' wb 0 (cw p aq cO tq jq sq k)∧Rd w' b3 0 [.int .i64 j.1,.int .i64 j.2]) [5,10] [0,1,2,4,3003,3005,2006,7,8,9,1010,1011,12] E I λa w E I hH=>?_;have hC:=hH.at w (And.intro I.ai I.ai);refine RH 4 E I hH hC λa E=>?_;refine QH E (λw hc=>ae E (hc.1 2 _ rfl)) hC λa E=>?_;refine QH E (λw hc=>ae E (hc.2 0 _ rfl)) hC λa E=>?_;refine RH 0 E I hH hC λa E=>?_;refine DN [(6,[7,8,9,1010,1011,12]),(10,[1006,7,8,9,1011,12])] (by kernel_rfl) rfl ⟨⟨_,rfl,?_⟩,⟨_,rfl,?_⟩,trivial⟩
  ·
   refine RH 0 E I hH hC λa E=>?_;refine jO 0 E I (zZ (id:=j.1) (I.tree tq)) ?_;clear E I;rintro e w ⟨x,ad,c,ok,rfl,dm,I⟩;refine⟨_,rfl,λa E=>?_⟩;refine RN 3 E I λa E=>?_;refine eU E rfl I Ty.t238 rfl λb5 a w E I ho=>?_;clear ho;replace hC:=hH.at w (And.intro I.ai I.ai);refine RH 0 E I hH hC λa E=>?_;refine SA 0 E I λa w E I=>?_;refine RN 1 E I λa E=>?_;exact⟨_,x,ad,c,ok,dm,E.ab [0,3,5,6],I.sub⟩
  refine RH 0 E I hH hC λa E=>?_;refine eU E rfl I Ty.t238 rfl λb5 a w E I ho=>?_;clear ho;replace hC:=hH.at w (And.intro I.ai I.ai);refine RH 0 E I hH hC λa E=>?_;refine jO 0 E I (zZ (id:=j.1) (I.tree tq)) ?_;clear E I;rintro e w ⟨x,ad,c,ok,rfl,dm,I⟩;refine⟨_,rfl,λa E=>?_⟩;refine SA 3 E I λa w E I=>?_;refine RN 1 E I λa E=>?_;exact⟨_,x,ad,c,ok,dm,E.ab [0,3,5,6],I.sub⟩
 clear E;(try clear I);rintro a w ⟨b5,x,ad,c,ok,dm,E,I⟩;refine aX 2 (λw0 w'=>Rd w' wb 0 (cw p aq cO tq jq sq k)∧Rd w' b3 0 [.int .i64 j.1,.int .i64 j.2]∧Rd w' b5 0 (cc x ad c)) [5,6,16,17] [0,2,3,4,3001,1005,1006,7,8,9,10,11,12,13,15,3014,1016,1017,18,19] E I λa w E I hH=>?_;have hC:=hH.at w ⟨I.ai,I.ai,I.ai⟩;refine RH 4 E I hH hC λa E=>?_;refine QH E (λw hc=>ae E (hc.2.1 1 _ rfl)) hC λa E=>?_;refine RH 1 E I hH hC λa E=>?_;refine CL 0 E I (zJ (I.tree tq)) λa w E I=>?_;replace hC:=hH.at w ⟨I.ai,I.ai,I.ai⟩;refine RH 2 E I hH hC λa E=>?_;refine E.by (s:=36) (λfa E=>?_) (λfa E=>?_)
 ·
  refine RH 11 E I hH hC λa E=>?_;refine RT 3 E I ?_;exact⟨true,A,J',k,rfl,.xG hb rfl (.inl fa),I.sub⟩
 refine RH 4 E I hH hC λa E=>?_;refine E.by (s:=40) (λhX E=>?_) (λhX E=>?_)
 ·
  have bQ:∀ y∈T.l,(y.id:Int)≠j.1:=by
   rcases dm with ⟨h,_⟩ | ⟨_,h⟩
   ·rw[h]at hX;cases hX
   ·exact h
  refine RH 7 E I hH hC λa E=>?_;refine RT 3 E I ?_;exact⟨true,A,J',k,rfl,.xG hb rfl (.inr (.inl bQ)),I.sub⟩
 obtain⟨hx,bZ⟩:x∈T.l∧(x.id:Int)=j.1:=by
  rcases dm with ⟨_,h⟩ | ⟨h,_⟩
  ·exact h
  ·rw[h]at hX;cases hX
 refine RH 2 E I hH hC λa E=>?_;refine QH E (λw hc=>ae E (hc.2.2 3 _ rfl)) hC λa E=>?_;refine RH 0 E I hH hC λa E=>?_;refine bt E (cm E rfl (s:=40)) (ae E (hC.2.2 2 _ rfl)) rfl λa E=>?_;refine RH 3 E I hH hC λa E=>?_;refine IF 0 E I (λao a E=>?_) λao a E=>?_
 ·
  refine RT 2 E I ?_;exact⟨true,A,J',k,rfl,.xG hb rfl (.inr (.inr ⟨x,hx,bZ,by omega⟩)),I.sub⟩
 refine RN 1 E I λa E=>?_;obtain⟨i,px,hE,kS⟩:=Wm x hx;refine aX 0 (λw0 w'=>Rd w' wb 0 (cw p aq cO tq jq sq k)∧Rd w' b5 0 (cc x ad c)) [5] [0,1,2,4,3003,1005,1006,7,8,9,10,11] E I λa w E I hH=>?_;have hC:=hH.at w ⟨I.ai,I.ai⟩;refine RH 4 E I hH hC λa E=>?_;refine QH E (λw hc=>ae E (hc.1 4 _ rfl)) hC λa E=>?_;refine RH 0 E I hH hC λa E=>?_;refine SS E (ae E (hC.2 4 _ rfl)) λa E=>?_;refine RH 0 E I hH hC λa E=>?_;refine CL 0 E I (Wh (I.store sq) hE kS hn) λa w E I=>?_;refine RN 5 E I λa E=>?_;refine RN 4 E I λa E=>?_;replace E:=E.aM 59;refine aX 2 (λw0 w'=>Rd w' b3 0 [.int .i64 j.1,.int .i64 j.2]∧Rd w' b5 0 (cc x ad c)) [8,11,12,13,14,15,16,17] [0,1,2,3,4,6,7,9,10,3005,3008,1011,1012,1013,1014,1015,1016,1017,18,19,1020,21,22,1023] E I λa w E I hH=>?_;have hC:=hH.at w ⟨I.ai,I.ai⟩;refine RH 9 E I hH hC λa E=>?_;refine QH E (λw hc=>bR E underlying245 rfl Ty.t245 (hc.1)) hC λa E=>?_;refine QH E (λw hc=>ae E (hc.2 3 _ rfl)) hC λa E=>?_;refine RH 0 E I hH hC λa E=>?_;refine ST 0 E I (λa w E I=>?_) (hlt:=(by simp[cw]));replace hC:=hH.at w ⟨I.ai,I.ai⟩;refine RH 2 E I hH hC λa E=>?_;refine qJ E rfl I Ty.t245 (by simp[Value.oneCell']) (by simp[cw]) λa w E I=>?_;replace hC:=hH.at w ⟨I.ai,I.ai⟩;refine RH 2 E I hH hC λa E=>?_;refine ST 0 E I (λa w E I=>?_) (hlt:=(by simp[cw,cG]));replace hC:=hH.at w ⟨I.ai,I.ai⟩;refine RH 2 E I hH hC λa E=>?_;refine ST 0 E I (λa w E I=>?_) (hlt:=(by simp[cw,cG]));refine ST 2 E I (λa w E I=>?_) (hlt:=(by simp[cw,cG]));refine RN 0 E I λa E=>?_;change U W w (aa wb 247 (cw p aq cO tq jq sq ⟨true,j.1,j.2,A.last+1,x.done,false⟩)::_) at I;refine RT 2 E I ?_;exact⟨true,A.add px.g px.p,J',⟨true,j.1,j.2,A.last+1,x.done,false⟩,rfl,.Dm hb rfl fa hx bZ (by omega) hE kS,I.sub⟩
theorem Wn {ad:Option Addr}{c:Nat}(I:U W w (aa wb 247 (cw p aq cO tq jq sq k)::ca ad x.al.length c x.al::Tree tq sq T::ax sq r A::bH jq J::aA W p aq cO::L))
   (hb:k.busy=true) (he:k.je=T.epoch) (hx:x∈T.l) (bZ:(x.id:Int)=k.jb) (ez:k.mh=false) (hi:A.ar[i]?=some px) (xV:px.id=k.x) (hr:px.refs=1) (hg:dO px.g) (hd:k.done<x.al.length) (hf:0≤x.frm∧x.frm≤1099511627776)
   (a6:di p) (aG:p.title.size≤1000000000) (kv:J.length≤16) :
   Calls prog 146 #[pt wb,.agg (cc x ad c).toArray] w λe w'=>∃ (A':Sn) (J':Js) (k':Wk),e=.returned (.tuple #[])∧lh p A T J k true A' T J' k' ∧
    U W w' (aa wb 247 (cw p aq cO tq jq sq k')::Tree tq sq T::ax sq r A'::bH jq J'::aA W p aq cO::L):=by
 have kT:=Tree.wt (I.tree tq);have hA:=(ax.facts (I.store sq)).1;have z6:=(kT.ok x hx).1;have aH:=(a2.1 hi).1;have mi:x.al.length≤65536:=z6.1;refine EN func146 ntmps146 rfl rfl λa E=>?_;refine BX 1 E I λb3 a w E I=>?_;change U W w (aa b3 238 (cc x ad c)::_) at I;refine bP 1 [7] [0,1,2,4,5,6,3003,1007,8,1009,10] E I λa w E I hH hC=>?_;refine RH 9 E I hH hC λa E=>?_;refine w9 E rfl I rfl λeF a w E I ho=>?_;replace hC:=hC.trans ho;clear ho;change U W w (aa eF 307 [pt sq,.int .i64 k.x,.bool false]::_) at I;refine RH 1 E I hH hC λa E=>?_;refine RN 1 E I λa E=>?_;obtain⟨zs,hz,iW,I⟩:=ca.open (I.pick (ca ad x.al.length c x.al));obtain⟨bb,oo,rfl,c4⟩:=I.drew.bU ad (by omega);have JD:zs.length=x.al.length:=by rw[← hz,a8]
 have JE:zs[k.done]?=some (zs[k.done]'(by omega)):=aD (by omega);have JF:x.al[k.done]?=some (zs[k.done]'(by omega)).2.2:=by rw[← hz,bm,JE];rfl
 have lf:=c4 k.done _ (by rw[bm,JE];rfl);have DO:Rd w.drew wb 0 (cw p aq cO tq jq sq k):=I.drew.ai;have ll:Rd w.drew wb 0 (bO p aq cO):=DO.part 0 2;have JG:Rd w.drew b3 0 (cc x (some ⟨bb,oo,none⟩) c):=I.drew.ai;have Wo:(zs[k.done]'(by omega)).2.2.length≤1099511627776:=z6.2 _ (bG JF);refine qT 0 (λw'=>Rd w' wb 0 (cw p aq cO tq jq sq k)∧Rd w' wb 0 (bO p aq cO)∧Rd w' b3 0 (cc x (some ⟨bb,oo,none⟩) c)∧w'.cell? ⟨bb,oo+k.done,none⟩=some (aK (zs[k.done]'(by omega)))) [5,7,11,12,14,18,19,20] [0,1,2,4,6,8,9,10,13,15,16,17,3003,3007,3011,3012,3014,3018,3019,3020,1005,1021] E I λa E=>?_;replace I:=I.drew;generalize w.drew=w at I lf DO ll JG ⊢;have hC:=And.intro DO (And.intro ll (And.intro JG lf));have hH:=Hd.any (λw'=>Rd w' wb 0 (cw p aq cO tq jq sq k)∧Rd w' wb 0 (bO p aq cO)∧Rd w' b3 0 (cc x (some ⟨bb,oo,none⟩) c)∧w'.cell? ⟨bb,oo+k.done,none⟩=some (aK (zs[k.done]'(by omega))));refine RH 12 E I hH hC λa E=>?_;refine QH E (λw hc=>bR E underlying45 rfl Ty.t45 (hc.2.1)) hC λa E=>?_;refine QH E (λw hc=>ae E (hc.2.2.1 1 _ rfl)) hC λa E=>?_;refine QH E (λw hc=>ae E (hc.1 9 _ rfl)) hC λa E=>?_;refine RH 1 E I hH hC λa E=>?_;refine QH E (λw hc=>ae E (hc.2.2.1 2 _ rfl)) hC λa E=>?_;refine QH E (λw hc=>ae E (hc.1 9 _ rfl)) hC λa E=>?_;refine RH 1 E I hH hC λa E=>?_;refine QH E (λw hc=>ae E (hc.2.2.2)) hC λa E=>?_;refine RH 1 E I hH hC λa E=>?_;have dv:U W w (ax sq r { A with ar:=A.ar.set i ⟨px.id,px.refs,px.g,px.p⟩ }::aa eF 307 [pt sq,.int .i64 k.x,.bool false]::aA W p aq cO::Sl 22 1 (some ⟨bb,oo,none⟩) x.al.length c (zs.map aK)::ah a7 zs::aa wb 247 (cw p aq cO tq jq sq k)::aa b3 238 (cc x (some ⟨bb,oo,none⟩) c)::Tree tq sq T::bH jq J::L):=by
  rw[show ({ A with ar:=A.ar.set i ⟨px.id,px.refs,px.g,px.p⟩ }:Sn)=A from by rw[← xx hi]];exact I.sub
 rw[← xV]at dv;have tK:=Jw.close (i:=i) (A:=A) (px:=px) (g:=px.g) (bad:=false) (p':=px.p) (dv.sub (M:=aa eF 307 [pt sq,.int .i64 px.id,.bool false]::ax sq r { A with ar:=A.ar.set i ⟨px.id,px.refs,px.g,px.p⟩ }::aA W p aq cO::Sl 22 1 (some ⟨bb,oo,none⟩) x.al.length c (zs.map aK)::ah a7 zs::aa wb 247 (cw p aq cO tq jq sq k)::aa b3 238 (cc x (some ⟨bb,oo,none⟩) c)::Tree tq sq T::bH jq J::L)) hg (λh=>by cases h);refine jN 0 E I (Jy (M:=Wg (W:=W) (q:=sq) (r:=r) (bc:=eF) (A:=A) (px:=px) (i:=i) aH) tK a6 aG Wo (λw' h=>(U.l7 (h.sub (M:=Sl 22 1 (some ⟨bb,oo,none⟩) x.al.length c (zs.map aK)::ah a7 zs::[]))).2 _ (getElem_mem _))) λjy zY sI a w E ⟨oh,I⟩=>?_;obtain⟨p2,⟨bD,Wp⟩,I⟩:=Jw.open I;have vV:=(ax.facts (I.store sq)).1;refine RN 0 E I λa E=>?_;refine IF 6 E I (λaj a E=>?_) λaj a E=>?_
 ·
  refine CL 2 E I (xU (L:=Tree tq sq T::bH jq J::aA W p aq cO::L) (I.sub (M:=aa wb 247 (cw p aq cO tq jq sq k)::ax sq r { A with ar:=A.ar.set i ⟨px.id,px.refs,jy,p2⟩ }::Tree tq sq T::bH jq J::aA W p aq cO::L)) hb) λa w E I=>?_;refine RN 0 E I λa E=>?_;have vW:Rd w wb 6 [.int .i64 k.jb,.int .i64 k.je]:=(I.ai (b:=wb)).part 6 2;refine aX 1 (λw0 w'=>Rd w' wb 0 (cw p aq cO tq jq sq { k with busy:=false })∧Rd w' wb 6 [.int .i64 k.jb,.int .i64 k.je]) [7] [0,1,2,4,5,6,3003,1007,1008] E I λa w E I hH=>?_;replace vW:Rd w wb 6 [.int .i64 k.jb,.int .i64 k.je]:=(I.ai (b:=wb)).part 6 2;have hC:=hH.at w ⟨I.ai,vW⟩;refine RH 6 E I hH hC λa E=>?_;refine QH E (λw hc=>ae E (hc.1 3 _ rfl)) hC λa E=>?_;refine RH 0 E I hH hC λa E=>?_;refine SS E (bR E underlying245 rfl Ty.t245 (hC.2)) λa E=>?_;refine RH 0 E I hH hC λa E=>?_;refine CL 0 E I (zO (I.tX jq) kv) λa w E I=>?_;change U W w (bH jq (lJ J k.jb k.je)::_) at I;refine RT 0 E I ?_;refine⟨A.eo k.x,lJ J k.jb k.je,{ k with busy:=false },rfl,.failed hb he hx bZ ez (Wp aj),?_⟩;rw[← xV,Wj hA vV hi hr] at *;exact I.sub
 refine ST 3 E I (λa w E I=>?_) (hlt:=(by simp[cw]));change U W w (aa wb 247 (cw p aq cO tq jq sq { k with mh:=true })::_) at I;refine RT 0 E I ?_;obtain⟨_,ni⟩:=oh aj;subst ni;exact⟨_,J,{ k with mh:=true },rfl,.mh (p':=p2) hb he hx bZ ez hi xV JF bD,I.sub⟩
theorem Wq {ad:Option Addr}{c:Nat}(I:U W w (aa wb 247 (cw p aq cO tq jq sq k)::Tree tq sq T::ax sq r A::bH jq J::L))
   (hb:k.busy=true) (he:k.je=T.epoch) (hx:T.l[kk]?=some x) (bZ:(x.id:Int)=k.jb) (ez:k.mh=true) (hi:A.ar[i]?=some px) (xV:px.id=k.x) (hd:k.done<x.al.length) (kv:J.length≤16) :
   Calls prog 147 #[pt wb,.agg (cc x ad c).toArray] w λe w'=>∃ (A':Sn) (T':Tr) (J':Js) (k':Wk),e=.returned (.tuple #[])∧lh p A T J k true A' T' J' k' ∧
    U W w' (aa wb 247 (cw p aq cO tq jq sq k')::Tree tq sq T'::ax sq r A'::bH jq J'::L):=by
 have kT:=Tree.wt (I.tree tq);have eA:=bG hx;have dM:=(a2.1 hx).1;have z6:=(kT.ok x eA).1;have mi:x.al.length≤65536:=z6.1;refine EN func147 ntmps147 rfl rfl λa E=>?_;refine BX 1 E I λb3 a w E I=>?_;change U W w (aa b3 238 (cc x ad c)::_) at I;refine aX 2 (λw0 w'=>Rd w' wb 0 (cw p aq cO tq jq sq k)∧Rd w' b3 0 (cc x ad c)) [5,9,10,14] [0,1,2,4,6,7,8,11,12,13,3003,3005,3009,3010,1014,1015] E I λa w E I hH=>?_;have hC:=hH.at w ⟨I.ai,I.ai⟩;refine RH 10 E I hH hC λa E=>?_;refine QH E (λw hc=>ae E (hc.1 2 _ rfl)) hC λa E=>?_;refine QH E (λw hc=>ae E (hc.2 0 _ rfl)) hC λa E=>?_;refine QH E (λw hc=>ae E (hc.1 9 _ rfl)) hC λa E=>?_;refine RH 1 E I hH hC λa E=>?_;refine SS E (ae E (hC.1 8 _ rfl)) λa E=>?_;refine RH 0 E I hH hC λa E=>?_;refine CL 0 E I (Wi (kk:=kk) (d:=k.done+1) (L:=aa wb 247 (cw p aq cO tq jq sq k)::aa b3 238 (cc x ad c)::bH jq J::L) (I.sub (M:=Tree tq sq T::ax sq r A::aa wb 247 (cw p aq cO tq jq sq k)::aa b3 238 (cc x ad c)::bH jq J::L)) hx (by omega) hi xV) λa w E JH=>?_;refine RN 0 E (U.start _) λa E=>?_;refine QO 0 E (U.start _) (λaj a E=>?_) λaj a E=>?_
 ·
  have hlt:x.done<k.done+1:=by simpa using aj
  replace I:=(JH.resolve_right (λh=>by omega)).2;refine ST 3 E I (λa w E I=>?_) (hlt:=(by simp[cw]));change U W w (aa wb 247 (cw p aq cO tq jq sq { k with busy:=false })::_) at I;refine CL 2 E I (JC (k:={ k with busy:=false }) I rfl) λa w E I=>?_;refine RN 0 E I λa E=>?_;refine b7 (M:=λa w=>∃ (b4:Nat) (ad2:Option Addr) (c2:Nat),Fr a 55 [(0,pt wb),(4,pt b4),(5,.bool true)]∧U W w (aa b4 238 (cc { x with done:=k.done+1,snap:=k.x } ad2 c2)::aa wb 247 (cw p aq cO tq jq sq { k with busy:=false })::Tree tq sq (T.iz kk x (k.done+1) k.x)::ax sq r (A.eo x.snap)::bH jq J::L)) ?_ ?_
  ·
   refine aX 0 (λw0 w'=>Rd w' wb 0 (cw p aq cO tq jq sq { k with busy:=false })∧Rd w' b3 0 (cc x ad c)) [5,10] [0,1,2,4,3003,3005,2006,7,8,9,1010,1011,12] E I λa w E I hH=>?_;have hC:=hH.at w ⟨I.ai,I.ai⟩;refine RH 4 E I hH hC λa E=>?_;refine QH E (λw hc=>ae E (hc.1 2 _ rfl)) hC λa E=>?_;refine QH E (λw hc=>ae E (hc.2 0 _ rfl)) hC λa E=>?_;refine RH 0 E I hH hC λa E=>?_;refine DN [(6,[7,8,9,1010,1011,12]),(10,[1006,7,8,9,1011,12])] (by kernel_rfl) rfl ⟨⟨_,rfl,?_⟩,⟨_,rfl,?_⟩,trivial⟩
   ·
    refine RH 0 E I hH hC λa E=>?_;refine aY 0 E I (xy (x:={ x with done:=k.done+1,snap:=k.x }) (k:=kk) (I.tree tq) (by simp[Tr.iz,dM])) λad2 c2 a w E I=>?_;refine RN 3 E I λa E=>?_;refine eU E rfl I Ty.t238 rfl λb4 a w E I ho=>?_;clear ho;replace hC:=hH.at w (And.intro I.ai I.ai);refine RH 0 E I hH hC λa E=>?_;refine SA 0 E I λa w E I=>?_;refine RN 1 E I λa E=>?_;exact⟨_,ad2,c2,E.ab [0,4,5],I.sub⟩
   refine RH 0 E I hH hC λa E=>?_;refine eU E rfl I Ty.t238 rfl λb4 a w E I ho=>?_;clear ho;replace hC:=hH.at w (And.intro I.ai I.ai);refine RH 0 E I hH hC λa E=>?_;refine aY 0 E I (xy (x:={ x with done:=k.done+1,snap:=k.x }) (k:=kk) (I.tree tq) (by simp[Tr.iz,dM])) λad2 c2 a w E I=>?_;refine SA 3 E I λa w E I=>?_;refine RN 1 E I λa E=>?_;exact⟨_,ad2,c2,E.ab [0,4,5],I.sub⟩
  clear E;(try clear I);rintro a w ⟨b4,ad2,c2,E,I⟩;refine RN 3 E I λa E=>?_;replace E:=E.eg 38;refine IF 7 E I (λao a E=>?_) λao a E=>?_
  ·
   replace ao:((k.done+1:Nat):Int)<((x.al.length:Nat):Int):=ao;refine aX 0 (λw0 w'=>Rd w' wb 0 (cw p aq cO tq jq sq { k with busy:=false })∧Rd w' wb 6 [.int .i64 k.jb,.int .i64 k.je]) [7] [0,1,2,4,5,6,3003,1007,1008] E I λa w E I hH=>?_;have vW:Rd w wb 6 [.int .i64 k.jb,.int .i64 k.je]:=(I.ai (b:=wb)).part 6 2;have hC:=hH.at w ⟨I.ai,vW⟩;refine RH 6 E I hH hC λa E=>?_;refine QH E (λw hc=>ae E (hc.1 3 _ rfl)) hC λa E=>?_;refine RH 0 E I hH hC λa E=>?_;refine SS E (bR E underlying245 rfl Ty.t245 (hC.2)) λa E=>?_;refine RH 0 E I hH hC λa E=>?_;refine CL 0 E I (zO (I.tX jq) kv) λa w E I=>?_;change U W w (bH jq (lJ J k.jb k.je)::_) at I;refine RT 0 E I ?_;refine⟨_,_,if k.done+1<x.al.length then lJ J k.jb k.je else J,{ k with busy:=false },rfl,.iz (x:=x) (kk:=kk) hb he hx bZ ez hlt (by omega),?_⟩;rw[ak (by omega)];exact I.sub
  replace ao:((x.al.length:Nat):Int)≤((k.done+1:Nat):Int):=ao;refine RT 0 E I ?_;refine⟨_,_,if k.done+1<x.al.length then lJ J k.jb k.je else J,{ k with busy:=false },rfl,.iz (x:=x) (kk:=kk) hb he hx bZ ez hlt (by omega),?_⟩;rw[ag (by omega)];exact I.sub
 have hlt:k.done+1≤x.done:=by
  have:=of_decide_eq_false aj;omega
 replace I:=(JH.resolve_left (λh=>by omega)).2;refine CL 2 E I (xU (L:=aa b3 238 (cc x ad c)::Tree tq sq T::bH jq J::L) (I.sub (M:=aa wb 247 (cw p aq cO tq jq sq k)::ax sq r A::aa b3 238 (cc x ad c)::Tree tq sq T::bH jq J::L)) hb) λa w E I=>?_;refine RN 0 E I λa E=>?_;refine b7 (M:=λa w=>∃ (b4:Nat) (ad2:Option Addr) (c2:Nat),Fr a 55 [(0,pt wb),(4,pt b4),(5,.bool true)]∧U W w (aa b4 238 (cc x ad2 c2)::aa wb 247 (cw p aq cO tq jq sq { k with busy:=false })::Tree tq sq T::ax sq r (A.eo k.x)::bH jq J::L)) ?_ ?_
 ·
  refine aX 0 (λw0 w'=>Rd w' wb 0 (cw p aq cO tq jq sq { k with busy:=false })∧Rd w' b3 0 (cc x ad c)) [5,10] [0,1,2,4,3003,3005,2006,7,8,9,1010,1011,12] E I λa w E I hH=>?_;have hC:=hH.at w ⟨I.ai,I.ai⟩;refine RH 4 E I hH hC λa E=>?_;refine QH E (λw hc=>ae E (hc.1 2 _ rfl)) hC λa E=>?_;refine QH E (λw hc=>ae E (hc.2 0 _ rfl)) hC λa E=>?_;refine RH 0 E I hH hC λa E=>?_;refine DN [(6,[7,8,9,1010,1011,12]),(10,[1006,7,8,9,1011,12])] (by kernel_rfl) rfl ⟨⟨_,rfl,?_⟩,⟨_,rfl,?_⟩,trivial⟩
  ·
   refine RH 0 E I hH hC λa E=>?_;refine aY 0 E I (xy (x:=x) (k:=kk) (I.tree tq) hx) λad2 c2 a w E I=>?_;refine RN 3 E I λa E=>?_;refine eU E rfl I Ty.t238 rfl λb4 a w E I ho=>?_;clear ho;replace hC:=hH.at w (And.intro I.ai I.ai);refine RH 0 E I hH hC λa E=>?_;refine SA 0 E I λa w E I=>?_;refine RN 1 E I λa E=>?_;exact⟨_,ad2,c2,E.ab [0,4,5],I.sub⟩
  refine RH 0 E I hH hC λa E=>?_;refine eU E rfl I Ty.t238 rfl λb4 a w E I ho=>?_;clear ho;replace hC:=hH.at w (And.intro I.ai I.ai);refine RH 0 E I hH hC λa E=>?_;refine aY 0 E I (xy (x:=x) (k:=kk) (I.tree tq) hx) λad2 c2 a w E I=>?_;refine SA 3 E I λa w E I=>?_;refine RN 1 E I λa E=>?_;exact⟨_,ad2,c2,E.ab [0,4,5],I.sub⟩
 clear E;(try clear I);rintro a w ⟨b4,ad2,c2,E,I⟩;refine RN 3 E I λa E=>?_;replace E:=E.eg 38;refine IF 7 E I (λao a E=>?_) λao a E=>?_
 ·
  refine aX 0 (λw0 w'=>Rd w' wb 0 (cw p aq cO tq jq sq { k with busy:=false })∧Rd w' wb 6 [.int .i64 k.jb,.int .i64 k.je]) [7] [0,1,2,4,5,6,3003,1007,1008] E I λa w E I hH=>?_;have vW:Rd w wb 6 [.int .i64 k.jb,.int .i64 k.je]:=(I.ai (b:=wb)).part 6 2;have hC:=hH.at w ⟨I.ai,vW⟩;refine RH 6 E I hH hC λa E=>?_;refine QH E (λw hc=>ae E (hc.1 3 _ rfl)) hC λa E=>?_;refine RH 0 E I hH hC λa E=>?_;refine SS E (bR E underlying245 rfl Ty.t245 (hC.2)) λa E=>?_;refine RH 0 E I hH hC λa E=>?_;refine CL 0 E I (zO (I.tX jq) kv) λa w E I=>?_;change U W w (bH jq (lJ J k.jb k.je)::_) at I;refine RT 0 E I ?_;refine⟨_,_,if x.done<x.al.length then lJ J k.jb k.je else J,{ k with busy:=false },rfl,.lost (x:=x) hb he eA bZ ez hlt,?_⟩;rw[ak (by omega)];exact I.sub
 refine RT 0 E I ?_;refine⟨_,_,if x.done<x.al.length then lJ J k.jb k.je else J,{ k with busy:=false },rfl,.lost (x:=x) hb he eA bZ ez hlt,?_⟩;rw[ag (by omega)];exact I.sub
structure JI (p:Pr)(A:Sn)(T:Tr)(J:Js)(k:Wk):Prop where
 pr:di p
 sz:p.title.size≤1000000000
 frm:∀ y∈T.l,0≤y.frm∧y.frm≤1099511627776
 gl:∀ x∈T.l,∃ (i:Nat) (px:aC),A.ar[i]?=some px∧px.id=x.snap
 Wr:k.busy=true→(∃ (i:Nat) (px:aC),A.ar[i]?=some px∧px.id=k.x∧px.refs=1∧dO px.g)∧∀ y∈T.l,(y.id:Int)=k.jb→k.done<y.al.length
 n:A.n+1<1099511627776
 len:J.length≤16
theorem Inv.ready {F:Int}{g0:Nat→Int}{t:Nat→Nat}{base:Nat}{ws:List Wk}(h:Inv p F g0 t base A T ws)(hk:k∈ws)(hF:0≤F∧F≤1099511627776)(hp:di p)(hz:p.title.size≤1000000000)(hn:A.n+1<1099511627776)(kv:J.length≤16):JI p A T J k :=
 ⟨hp,hz,λy hy=>by rw[(h.gd y hy).1];exact hF,λx hx=>h.Jh hx,λhb=>⟨by
  obtain⟨i,px,h1,h2⟩:=h.Vl hk hb;have h3:=h.ar px (bG h1);exact⟨i,px,h1,h2,h3.1,h3.2⟩,λy hy he=>((h.lj k hk).2 hb y hy he).1⟩,hn,kv⟩
theorem Ws (I:U W w (aa wb 247 (cw p aq cO tq jq sq k)::Tree tq sq T::ax sq r A::bH jq J::aA W p aq cO::L))(hr:JI p A T J k) :
   Calls prog 102 #[pt wb] w λe w'=>∃ (z:Bool) (A':Sn) (T':Tr) (J':Js) (k':Wk),e=.returned (.bool z)∧lh p A T J k z A' T' J' k' ∧
    U W w' (aa wb 247 (cw p aq cO tq jq sq k')::Tree tq sq T'::ax sq r A'::bH jq J'::aA W p aq cO::L):=by
 refine EN func102 ntmps102 rfl rfl λa E=>?_;refine RN 6 E I λa E=>?_;replace E:=E.aM 6;refine IF 8 E I (λao a E=>?_) λao a E=>?_
 ·
  refine jO 2 E I (Wl (p:=p) I ao hr.gl hr.n) ?_;clear E I;rintro e w ⟨z,A',J',k',rfl,ud,I⟩;refine⟨_,rfl,λa E=>?_⟩;refine RT 1 E I ?_;exact⟨z,A',T,J',k',rfl,ud,I⟩
 obtain⟨⟨i,px,hE,kS,a6,sJ⟩,c6⟩:=hr.Wr ao;refine RN 0 E I λa E=>?_;refine b7 (M:=λa w=>∃ (b3:Nat) (x:Br) (ad:Option Addr) (c:Nat) (ok:Bool),((ok=true∧x∈T.l∧(x.id:Int)=k.jb)∨(ok=false∧∀ y∈T.l,(y.id:Int)≠k.jb))∧Fr a 57 [(0,pt wb),(3,pt b3),(4,.bool ok)]∧U W w (aa b3 238 (cc x ad c)::ca ad x.al.length c x.al::aa wb 247 (cw p aq cO tq jq sq k)::Tree tq sq T::ax sq r A::bH jq J::aA W p aq cO::L)) ?_ ?_
 ·
  refine aX 0 (λw0 w'=>Rd w' wb 0 (cw p aq cO tq jq sq k)) [8,13] [0,1,2,4,5,6,7,3003,3008,2009,10,11,12,1013,1014,15] E I λa w E I hH=>?_;have hC:=hH.at w I.ai;refine RH 7 E I hH hC λa E=>?_;refine QH E (λw hc=>ae E (hc 2 _ rfl)) hC λa E=>?_;refine QH E (λw hc=>ae E (hc 6 _ rfl)) hC λa E=>?_;refine RH 0 E I hH hC λa E=>?_;refine DN [(9,[10,11,12,1013,1014,15]),(13,[1009,10,11,12,1014,15])] (by kernel_rfl) rfl ⟨⟨_,rfl,?_⟩,⟨_,rfl,?_⟩,trivial⟩
  ·
   refine RH 0 E I hH hC λa E=>?_;refine jO 0 E I (zZ (id:=k.jb) (I.tree tq)) ?_;clear E I;rintro e w ⟨x,ad,c,ok,rfl,dm,I⟩;refine⟨_,rfl,λa E=>?_⟩;refine RN 3 E I λa E=>?_;refine eU E rfl I Ty.t238 rfl λb3 a w E I ho=>?_;clear ho;replace hC:=hH.at w I.ai;refine RH 0 E I hH hC λa E=>?_;refine SA 0 E I λa w E I=>?_;refine RN 1 E I λa E=>?_;exact⟨_,x,ad,c,ok,dm,E.ab [0,3,4],I.sub⟩
  refine RH 0 E I hH hC λa E=>?_;refine eU E rfl I Ty.t238 rfl λb3 a w E I ho=>?_;clear ho;replace hC:=hH.at w I.ai;refine RH 0 E I hH hC λa E=>?_;refine jO 0 E I (zZ (id:=k.jb) (I.tree tq)) ?_;clear E I;rintro e w ⟨x,ad,c,ok,rfl,dm,I⟩;refine⟨_,rfl,λa E=>?_⟩;refine SA 3 E I λa w E I=>?_;refine RN 1 E I λa E=>?_;exact⟨_,x,ad,c,ok,dm,E.ab [0,3,4],I.sub⟩
 clear E;(try clear I);rintro a w ⟨b3,x,ad,c,ok,dm,E,I⟩;refine aX 2 (λw0 w'=>Rd w' wb 0 (cw p aq cO tq jq sq k)) [8,9] [0,1,2,3,5,6,7,3004,1008,1009,10,11,12,13,14,15] E I λa w E I hH=>?_;have hC:=hH.at w I.ai;refine RH 7 E I hH hC λa E=>?_;refine QH E (λw hc=>ae E (hc 7 _ rfl)) hC λa E=>?_;refine RH 0 E I hH hC λa E=>?_;refine SS E (ae E (hC 2 _ rfl)) λa E=>?_;refine RH 0 E I hH hC λa E=>?_;refine CL 0 E I (zJ (I.tree tq)) λa w E I=>?_;replace hC:=hH.at w I.ai;refine RH 2 E I hH hC λa E=>?_;refine E.by (s:=42) (λkO E=>?_) (λkO E=>?_)
 ·
  refine RH 4 E I hH hC λa E=>?_;refine CL 2 E I (xU (L:=Tree tq sq T::bH jq J::aA W p aq cO::L) (I.sub (M:=aa wb 247 (cw p aq cO tq jq sq k)::ax sq r A::Tree tq sq T::bH jq J::aA W p aq cO::L)) ao) λa w E I=>?_;refine RT 2 E I ?_;exact⟨true,A.eo k.x,T,J,{ k with busy:=false },rfl,.gone ao (.inl kO),I.sub⟩
 refine RH 4 E I hH hC λa E=>?_;refine IF 0 E I (λay a E=>?_) λay a E=>?_
 ·
  have bQ:∀ y∈T.l,(y.id:Int)≠k.jb:=by
   rcases dm with ⟨h,_⟩ | ⟨_,h⟩
   ·rw[h]at ay;cases ay
   ·exact h
  refine CL 1 E I (xU (L:=Tree tq sq T::bH jq J::aA W p aq cO::L) (I.sub (M:=aa wb 247 (cw p aq cO tq jq sq k)::ax sq r A::Tree tq sq T::bH jq J::aA W p aq cO::L)) ao) λa w E I=>?_;refine RT 2 E I ?_;exact⟨true,A.eo k.x,T,J,{ k with busy:=false },rfl,.gone ao (.inr bQ),I.sub⟩
 obtain⟨hx,bZ⟩:x∈T.l∧(x.id:Int)=k.jb:=by
  rcases dm with ⟨_,h⟩ | ⟨h,_⟩
  ·exact h
  ·rw[h]at ay;cases ay
 refine IF 7 E I (λbk a E=>?_) λbk a E=>?_
 ·
  refine jN 2 E I (Wn (I.sub (M:=aa wb 247 (cw p aq cO tq jq sq k)::ca ad x.al.length c x.al::Tree tq sq T::ax sq r A::bH jq J::aA W p aq cO::L)) ao kO hx bZ bk hE kS a6 sJ (c6 x hx bZ) (hr.frm x hx) hr.pr hr.sz hr.len) λA' J' k' a w E ⟨ud,I⟩=>?_;refine RT 2 E I ?_;exact⟨true,A',T,J',k',rfl,ud,I⟩
 obtain⟨kk,jQ⟩:=jR.1 hx;refine jO 2 E I (Wq (p:=p) (L:=aA W p aq cO::L) (I.sub (M:=aa wb 247 (cw p aq cO tq jq sq k)::Tree tq sq T::ax sq r A::bH jq J::aA W p aq cO::L)) ao kO jQ bZ bk hE kS (c6 x hx bZ) hr.len) ?_;clear E I;rintro e w ⟨A',T',J',k',rfl,ud,I⟩;refine⟨_,rfl,λa E=>?_⟩;refine RT 2 E I ?_;exact⟨true,A',T',J',k',rfl,ud,I⟩
end
end
section
theorem DP {s:ByteArray}{j:Nat}(h:j<s.size):s.get! j=s[j]'h:=by
 have h2:j<s.data.size:=h;show s.data[j]! = s.data[j];rw[getElem!_pos s.data j h2]
theorem JJ {s:ByteArray}{j:Nat}(h:s.size≤j):s.get! j=0:=by
 have h2:¬ j<s.data.size:=Nat.not_lt.2 h;show s.data[j]! = 0;rw[getElem!_neg s.data j h2];rfl
theorem q9 (s:ByteArray)(p:Nat):(s.extract p s.size).size=s.size-p:=by simp[ByteArray.size_extract]
theorem Wt (s:ByteArray)(p k:Nat):(s.extract p s.size).get! k=s.get! (p+k):=by
 by_cases h:p+k<s.size
 ·have h2:k<(s.extract p s.size).size:=by rw[q9];omega
  rw[DP h2,DP h,ByteArray.getElem_extract]
 ·rw[JJ (by rw[q9];omega),JJ (by omega)]
theorem Wu (s:ByteArray)(p:Nat):Utf8.decode (s.extract p s.size) 0=Utf8.decode s p:=by
 have hc:∀ k,decide (k<s.size-p)=decide (p+k<s.size):=λk=>by
  by_cases h:p+k<s.size
  ·rw[dh h,dh (by omega)]
  ·rw[bn h,bn (by omega)]
 simp only[Utf8.decode,Wt,q9,hc,Nat.zero_add,Nat.add_assoc]
theorem DQ (s:ByteArray)(p n:Nat):(s.extract p s.size).extract n (s.extract p s.size).size=s.extract (p+n) s.size:=by
 rw[q9,ByteArray.extract_extract]
 congr 1
 omega
def DR (b n low r:Nat):Prop:=(b=192+r∧r<32∧n=2∧low=128)∨(b=224+r∧r<16∧n=3∧low=2048)∨(b=240+r∧r<8∧n=4∧low=65536)
def j1 (s:ByteArray)(j:Nat):Nat:=(s.get! j).toNat
def gf (s:ByteArray)(r:Nat):Nat→Nat
 | 0=>r
 | j+1=>gf s r j*64+j1 s (j+1)%64
theorem DS (s:ByteArray)(j:Nat):j1 s j<256:=(s.get! j).toNat_lt
theorem DT {s:ByteArray}{r:Nat}(h:r<32):∀ j,gf s r j<32*64 ^ j
 | 0=>by simpa [gf] using h
 | j+1=>by
  have:=DT (s:=s) h j;rw[gf,Nat.pow_succ];omega
def z7 (low r:Nat):Prop:=r<low∨1114111<r∨(55296≤r∧r<57344)
section
variable {s:ByteArray}{b n low r:Nat}
theorem Wv (hb:j1 s 0=b)(h:b<128):Utf8.decode s 0=(b,1):=by
 simp only[j1]at hb;simp[Utf8.decode,hb,h]
theorem sK (hb:j1 s 0=b)(h1:128≤b)(h2:b<192∨248≤b):Utf8.decode s 0=(0xFFFD,1):=by
 have:=DS s 0;simp only[j1]at hb this;have e1:¬ b<128:=by omega
 have e2:(b/32==6)=false:=by rw[lG];omega
 have e3:(b/16==14)=false:=by rw[lG];omega
 have iV:(b/8==30)=false:=by rw[lG];omega
 simp[Utf8.decode,hb,e1,e2,e3,iV,Utf8.runeError]
theorem DU (hb:j1 s 0=b)(hd:DR b n low r)(h:s.size<n∨∃ k,1≤k∧k<n∧j1 s k/64≠2):Utf8.decode s 0=(0xFFFD,1):=by
 have hc:∃ k,1≤k∧k<n∧(decide (k<s.size)&&j1 s k/64==2)=false:=by
  rcases h with h | ⟨k,h1,h2,h3⟩
  ·rcases Nat.eq_zero_or_pos s.size with h0 | h0
   ·exact⟨1,by omega,by rcases hd with h | h | h <;> omega,by rw[bn (by omega),Bool.false_and]⟩
   ·exact⟨s.size,by omega,h,by rw[bn (by omega),Bool.false_and]⟩
  ·exact⟨k,h1,h2,by rw[lG.2 h3,Bool.and_false]⟩
 obtain⟨k,h1,h2,h3⟩:=hc;simp only[j1]at hb h3;rcases hd with ⟨rfl,h4,rfl,rfl⟩ | ⟨rfl,h4,rfl,rfl⟩ | ⟨rfl,h4,rfl,rfl⟩
 ·have e1:¬ 192+r<128:=by omega
  have e2:((192+r)/32==6)=true:=by rw[beq_iff_eq];omega
  have e3:((192+r)/16==14)=false:=by rw[lG];omega
  have iV:((192+r)/8==30)=false:=by rw[lG];omega
  obtain rfl:k=1:=by omega
  simp only[Utf8.decode,Nat.zero_add,hb,e1,e2,e3,iV,h3,Utf8.runeError];simp
 ·have e1:¬ 224+r<128:=by omega
  have e2:((224+r)/32==6)=false:=by rw[lG];omega
  have e3:((224+r)/16==14)=true:=by rw[beq_iff_eq];omega
  have iV:((224+r)/8==30)=false:=by rw[lG];omega
  have hk:k=1∨k=2:=by omega
  rcases hk with rfl | rfl
  all_goals
   simp only[Utf8.decode,Nat.zero_add,hb,e1,e2,e3,iV,h3,Utf8.runeError];simp
 ·have e1:¬ 240+r<128:=by omega
  have e2:((240+r)/32==6)=false:=by rw[lG];omega
  have e3:((240+r)/16==14)=false:=by rw[lG];omega
  have iV:((240+r)/8==30)=true:=by rw[beq_iff_eq];omega
  have hk:k=1∨k=2∨k=3:=by omega
  rcases hk with rfl | rfl | rfl
  all_goals
   simp only[Utf8.decode,Nat.zero_add,hb,e1,e2,e3,iV,h3,Utf8.runeError];simp
theorem Ww (hb:j1 s 0=b)(hd:DR b n low r)(I:n≤s.size)(h:∀ k,1≤k→k<n→j1 s k/64=2) :
   (z7 low (gf s r (n-1))→Utf8.decode s 0=(0xFFFD,1))∧(¬ z7 low (gf s r (n-1))→Utf8.decode s 0=(gf s r (n-1),n)):=by
 simp only[z7];have hc:∀ k,1≤k→k<n→(decide (k<s.size)&&(s.get! k).toNat/64==2)=true:=λk h1 h2=>by
  rw[dh (by omega),Bool.true_and,beq_iff_eq];exact h k h1 h2
 have hlt:=DT (s:=s) (r:=r) (by rcases hd with h | h | h <;> omega) (n-1);simp only[j1]at hb;rcases hd with ⟨rfl,h4,rfl,rfl⟩ | ⟨rfl,h4,rfl,rfl⟩ | ⟨rfl,h4,rfl,rfl⟩
 ·have e1:¬ 192+r<128:=by omega
  have e2:((192+r)/32==6)=true:=by rw[beq_iff_eq];omega
  have sL:gf s r (2-1)=(192+r)%32*64+(s.get! 1).toNat%64:=by
   show r*64+(s.get! 1).toNat%64=_;omega
  have kq:Utf8.decode s 0=if 128≤gf s r (2-1) then (gf s r (2-1),2) else (0xFFFD,1):=by
   rw[sL];simp only[Utf8.decode,Nat.zero_add,hb,e1,e2,hc 1 (by omega) (by omega),Utf8.runeError];simp
  have aeW:gf s r (2-1)<2048:=hlt;refine⟨λjU=>?_,λhg=>?_⟩
  ·rw[kq,ag (by omega)]
  ·rw[kq,ak (by omega)]
 ·have e1:¬ 224+r<128:=by omega
  have e2:((224+r)/32==6)=false:=by rw[lG];omega
  have e3:((224+r)/16==14)=true:=by rw[beq_iff_eq];omega
  have sL:gf s r (3-1)=(224+r)%16*4096+(s.get! 1).toNat%64*64+(s.get! 2).toNat%64:=by
   show (r*64+(s.get! 1).toNat%64)*64+(s.get! 2).toNat%64=_;omega
  have kq:Utf8.decode s 0=if 2048≤gf s r (3-1)∧Utf8.valid (gf s r (3-1))=true then (gf s r (3-1),3) else (0xFFFD,1):=by
   rw[sL];simp only[Utf8.decode,Nat.zero_add,hb,e1,e2,e3,hc 1 (by omega) (by omega),hc 2 (by omega) (by omega),Utf8.runeError];simp
  have hv:Utf8.valid (gf s r (3-1))=true↔(gf s r (3-1)<55296∨(57344≤gf s r (3-1)∧gf s r (3-1)≤1114111)):=by
   simp only[Utf8.valid,Bool.or_eq_true,fj,decide_eq_true_eq];omega
  refine⟨λjU=>?_,λhg=>?_⟩
  ·rw[kq,ag (by rw[hv];omega)]
  ·rw[kq,ak (by rw[hv];omega)]
 ·have e1:¬ 240+r<128:=by omega
  have e2:((240+r)/32==6)=false:=by rw[lG];omega
  have e3:((240+r)/16==14)=false:=by rw[lG];omega
  have iV:((240+r)/8==30)=true:=by rw[beq_iff_eq];omega
  have sL:gf s r (4-1)=(240+r)%8*262144+(s.get! 1).toNat%64*4096+(s.get! 2).toNat%64*64+(s.get! 3).toNat%64:=by
   show ((r*64+(s.get! 1).toNat%64)*64+(s.get! 2).toNat%64)*64+(s.get! 3).toNat%64=_;omega
  have kq:Utf8.decode s 0=if 65536≤gf s r (4-1)∧Utf8.valid (gf s r (4-1))=true then (gf s r (4-1),4) else (0xFFFD,1):=by
   rw[sL];simp only[Utf8.decode,Nat.zero_add,hb,e1,e2,e3,iV,hc 1 (by omega) (by omega),hc 2 (by omega) (by omega),hc 3 (by omega) (by omega),Utf8.runeError];simp
  have hv:Utf8.valid (gf s r (4-1))=true↔(gf s r (4-1)<55296∨(57344≤gf s r (4-1)∧gf s r (4-1)≤1114111)):=by
   simp only[Utf8.valid,Bool.or_eq_true,fj,decide_eq_true_eq];omega
  refine⟨λjU=>?_,λhg=>?_⟩
  ·rw[kq,ag (by rw[hv];omega)]
  ·rw[kq,ak (by rw[hv];omega)]
end
def z8 (x:Nat×Nat):Bool:=if x.1≠65533 then true else decide (x.2=3)
theorem Wx (s:ByteArray)(i:Nat):z8 (Utf8.decode s i)=mf (Utf8.decode s i):=by
 rcases I3 s i with h | h
 ·unfold z8 mf;by_cases h1:(Utf8.decode s i).1=65533
  ·rw[h1]at h;have h2:(Utf8.decode s i).2=3:=by rw[← h];rfl
   rw[ag (λh3=>h3 h1),h2];have:Utf8.decode s i≠(65533,1):=λe=>by rw[e]at h2;cases h2
   simp[this]
  ·rw[ak h1];have:Utf8.decode s i≠(65533,1):=λe=>h1 (by rw[e]);simp[this]
 ·rw[h];rfl
def vX (c:Int):Nat:=[0,2,2,3,3,3,3,3,3,1,2,2,2,2,2,1].getD c.toNat 0
def Aa (o:gA)(k:Nat):Int:=if k=0 then o.a else if k=1 then o.b else o.c
def j2 (n:Int)(o:gA)(k:Nat):Int:=if vX o.code≤k then 0 else if o.code=9∨(o.code=10∧k=1) then n else 31
def ra (n:Int)(o:gA)(k:Nat):Prop:=(k<vX o.code∧o.code=1∧k=1)∨(0≤Aa o k∧Aa o k≤j2 n o k)
theorem xW {n:Int}{o:gA}:eY n o↔(0≤o.code∧o.code≤15)∧ra n o 0∧ra n o 1∧ra n o 2:=by
 obtain⟨code,a,b,c⟩:=o;simp only[eY,ra,Aa,j2,eX];by_cases h:0≤code∧code≤15
 ·have h2:∃ m:Nat,code=m∧m≤15:=⟨code.toNat,by omega,by omega⟩;obtain⟨m,rfl,hm⟩:=h2;have:m=0∨m=1∨m=2∨m=3∨m=4∨m=5∨m=6∨m=7∨m=8∨m=9∨m=10∨m=11∨m=12∨m=13∨m=14∨m=15:=by omega
  rcases this with rfl | rfl | rfl | rfl | rfl | rfl | rfl | rfl | rfl | rfl | rfl | rfl | rfl | rfl | rfl | rfl <;> simp[vX] <;> omega
 ·constructor
  ·intro h3;omega
  ·intro h3;exact absurd h3.1 h
end
end Go.Proofs.YteoldcfapaiobaaGreat
