/- The walks of packages word and vm, over whatever memory keeps the cells. -/
import Derived.Test.YteoldcfapaiobaaGreatI04Job
import Derived.Test.YteoldcfapaiobaaGreatI01Row
import Derived.Test.YteoldcfapaiobaaGreatI03Snap2
namespace Go.Proofs.YteoldcfapaiobaaGreat
open Tryz
open List (mem_range eraseIdx_set_eq append_nil set_set range_succ countP_congr)
open Go.RowKit
set_option linter.unusedVariables false
set_option linter.unusedSimpArgs false
set_option maxRecDepth 10000
set_option synthInstance.maxSize 4000
set_option synthInstance.maxHeartbeats 400000
section
section
variable {W w:World}{L:List SP}
theorem LL {x:Int}(I:U W w L)(hx:du x):Calls prog 229 #[.int .i32 x,.int .i64 32] w λe w'=>e=.returned (.int .i64 (kS x))∧U W w' L:=by
 have h1:=Int.tmod_lt_of_pos x (b:=32) (by decide);have h2:=Int.lt_tmod_of_pos x (b:=32) (by decide);have hm:(kS x:Int)=x%32:=by
  have h1:=Int.emod_nonneg x (show (32:Int)≠0 by decide);show (((x%32).toNat:Nat):Int)=_;omega
 have ht:x.tmod 32=if 0≤x then x%32 else -((-x)%32):=by
  split
  ·exact Int.tmod_eq_emod_of_nonneg (by omega)
  ·rw[← Int.neg_neg (x.tmod 32),← Int.neg_tmod,Int.tmod_eq_emod_of_nonneg (by omega)]
 simp only[du]at hx;refine EN func229 ntmps229 rfl rfl λa E=>?_;refine RN 6 E I λa E=>?_;replace E:=E.aQ 7;refine SX 3 E I (by rw[gy (by omega) (by omega)]) λa E=>?_;refine IF 7 E I (λao a E=>?_) λao a E=>?_
 ·
  refine RN 4 E I λa E=>?_;rw[show x.tmod 32+32=(kS x:Int) from by rw[hm,ht];split <;> omega]at E;refine RT 3 E I ?_;exact⟨rfl,I⟩
 refine RT 3 E I ?_;exact⟨by rw[hm,show x.tmod 32=x%32 from by rw[ht] at *;split at*<;> omega],I⟩
theorem Yi {x y:Int}(I:U W w L):Calls prog 244 #[.int .i32 x,.int .i32 y] w λe w'=>e=.returned (.int .i32 (iz (x+y)))∧U W w' L:=by
 refine EN func244 ntmps244 rfl rfl λa E=>?_;refine RT 7 E I ?_;exact⟨rfl,I⟩
theorem Yj {x y:Int}(I:U W w L):Calls prog 245 #[.int .i32 x,.int .i32 y] w λe w'=>e=.returned (.int .i32 (iz (x-y)))∧U W w' L:=by
 refine EN func245 ntmps245 rfl rfl λa E=>?_;refine RT 7 E I ?_;exact⟨rfl,I⟩
theorem Yk {x y:Int}(I:U W w L):Calls prog 246 #[.int .i32 x,.int .i32 y] w λe w'=>e=.returned (.int .i32 (iz (x*y)))∧U W w' L:=by
 refine EN func246 ntmps246 rfl rfl λa E=>?_;refine RT 7 E I ?_;exact⟨rfl,I⟩
theorem Yl {x y:Int}(I:U W w L):Calls prog 247 #[.int .i32 x,.int .i32 y] w λe w'=>e=.returned (.int .i32 (if y=0 then 0 else iz (x.tdiv y)))∧U W w' L:=by
 refine EN func247 ntmps247 rfl rfl λa E=>?_;refine IF 8 E I (λak a E=>?_) λak a E=>?_
 ·
  refine RT 2 E I ?_;exact⟨by rw[aj (by omega)],I⟩
 refine IF 3 E I (λao a E=>?_) λao a E=>?_
 ·
  refine RT 4 E I ?_;exact⟨by rw[ag (by omega),show y = -1 from by omega,Int.tdiv_neg,Int.tdiv_one,show (0:Int)-x = -x from by omega];rfl,I⟩
 refine RN 3 E I λa E=>?_;refine SS E (Km E (by omega)) λa E=>?_;refine RT 1 E I ?_;exact⟨by rw[ag (by omega)];rfl,I⟩
theorem LM {z:Bool}(I:U W w L):Calls prog 248 #[.bool z] w λe w'=>e=.returned (.int .i32 (if z=true then 1 else 0))∧U W w' L:=by
 refine EN func248 ntmps248 rfl rfl λa E=>?_;refine IF 5 E I (λak a E=>?_) λak a E=>?_
 ·
  refine RT 2 E I ?_;exact⟨by rw[aj ak],I⟩
 refine RT 2 E I ?_;exact⟨by rw[ag (by rw[ak];decide)],I⟩
theorem Ym {k x y:Int}(I:U W w L):Calls prog 242 #[.int .i64 k,.int .i32 x,.int .i32 y] w λe w'=>e=.returned (.int .i32 (jm k x y))∧U W w' L:=by
 refine EN func242 ntmps242 rfl rfl λa E=>?_;refine IF 8 E I (λak a E=>?_) λak a E=>?_
 ·
  refine CL 3 E I (Yi I) λa w E I=>?_;refine RT 1 E I ?_;exact⟨by simp[jm,ak],I⟩
 refine IF 3 E I (λao a E=>?_) λao a E=>?_
 ·
  refine CL 3 E I (Yj I) λa w E I=>?_;refine RT 1 E I ?_;exact⟨by simp[jm,ao],I⟩
 refine IF 3 E I (λay a E=>?_) λay a E=>?_
 ·
  refine CL 3 E I (Yk I) λa w E I=>?_;refine RT 1 E I ?_;exact⟨by simp[jm,ay],I⟩
 refine IF 3 E I (λbl a E=>?_) λbl a E=>?_
 ·
  refine CL 3 E I (Yl I) λa w E I=>?_;refine RT 1 E I ?_;exact⟨by simp[jm,bl],I⟩
 refine IF 3 E I (λbO a E=>?_) λbO a E=>?_
 ·
  refine CL 4 E I (LM I) λa w E I=>?_;refine RT 1 E I ?_;exact⟨by simp[jm,bO],I⟩
 refine CL 4 E I (LM I) λa w E I=>?_;refine RT 1 E I ?_;exact⟨by simp[jm,ak,ao,ay,bl,bO],I⟩
theorem Yn {s:ByteArray}{n:Int}(I:U W w L)(aF:s.size≤1099511627776)(hn:du n):Calls prog 241 #[.string s,.int .i64 n] w λe w'=>e=.returned (.int .i32 (ny s n))∧U W w' L:=by
 simp only[du]at hn;refine EN func241 ntmps241 rfl rfl λa E=>?_;refine RN 5 E I λa E=>?_;refine EE E rfl I gB rfl λb8 a w E I ho=>?_;clear ho;refine RN 0 E I λa E=>?_;refine aL (λμ a w=>∃ (pos:Nat) (dn:List (Nat×Nat)),(μ=s.size-pos∧pos≤s.size∧ef s 0=dn++ef s pos∧dn.length≤pos∧(n<0∨(dn.length:Int)≤n))∧Fr a 17 [(0,.string s),(1,.int .i64 (n-dn.length)),(8,pt b8)]∧U W w (k5 b8 (.stringIter s pos)::L)) (s.size) (⟨0,[],⟨by simp,by simp,by simp,by simp,by simp;omega⟩,by rw[show n-(([]:List (Nat×Nat)).length:Int)=n from by simp];exact E.ab [0,1,8],I⟩) ?_;clear E I;rintro μ a w ⟨pos,dn,⟨rfl,qM,dc,mZ,oe⟩,E,I⟩;refine RN 1 E I λa E=>?_;refine EG E rfl I rfl λa w E I=>?_;refine RN 0 E I λa E=>?_;refine SS E (oM E (EC s pos)) λa E=>?_;refine IF 1 E I (λak a E=>?_) λak a E=>?_
 ·
  have nA:=sd ak;have jo:=Fz qM;have p5:ed s pos=pos+(Utf8.decode s pos).2:=by rw[ed,aj ak]
  have lV:=vh s pos;refine RN 1 E I λa E=>?_;refine SS E (oM E (ED ak)) λa E=>?_;refine IF 5 E I (λao a E=>?_) λao a E=>?_
  ·
   refine RT 3 E I ?_;refine⟨?_,I.sub⟩;have p8:n.toNat=dn.length:=by omega
   rw[ny,aj (by omega),dc,nA,p8,pJ (a7 _),Nat.sub_self];rfl
  refine RN 3 E I λa E=>?_;exact⟨s.size-ed s pos,by omega,ed s pos,dn++[Utf8.decode s pos],⟨rfl,jo,by rw[dc,nA,dz];rfl,by rw[aM];simp;omega,by rw[aM];simp;omega⟩,by rw[show n-((dn++[Utf8.decode s pos]).length:Int)=n-(dn.length:Int)-1 from by rw[aM];simp;omega];exact E.ab [0,1,8],I.sub⟩
 refine RT 2 E I ?_;refine⟨?_,I.sub⟩;have gQ:=se (s:=s) (pos:=pos) ak;rw[gQ,append_nil]at dc;rw[ny];split
 ·rw[dc,iO (by omega)];rfl
 ·rfl
structure zi (W:World)(t:TypeId)(ad:Addr)(vo fs:FuncId)(J:(Nat→Int)→Bool→SP):Prop where
 o6 : pQ prog t "Get" vo
 o7:hZ prog vo=true
 BV : pQ prog t "Set" fs
 w1:hZ prog fs=true
 ok:∀ (w:World) (L:List SP) (g:Nat→Int) (bad:Bool),U W w (J g bad::L)→dT g
 get:∀ (w:World) (L:List SP) (g:Nat→Int) (bad:Bool) (c:Nat),c<32→U W w (J g bad::L)→Calls prog vo (List.toArray [.pointer (some ad),.int .i64 c]) w λe w'=>e=.returned (.int .i32 (g c))∧U W w' (J g bad::L)
 set:∀ (w:World) (L:List SP) (g:Nat→Int) (bad:Bool) (c:Nat) (v:Int),c<32→du v→U W w (J g bad::L)→Calls prog fs (List.toArray [.pointer (some ad),.int .i64 c,.int .i32 v]) w λe w' =>
  ∃ (g':Nat→Int) (fy:Bool),e=.returned (.tuple #[])∧((fy=true∧g'=g)∨(fy=false∧bad=false∧g'=cn g c v))∧U W w' (J g' fy::L)
abbrev ij (p:Pr)(aq:Option Addr)(cO:Nat)(t:TypeId)(ad:Addr)(fr:Int)(adP:Option Addr)(q4 cP:Nat)(aR:Nat):List Value :=
 [.string p.title,.slice aq p.ops.length cO,.iface t (.pointer (some ad)),.int .i64 fr,.slice adP q4 cP,.int .i64 aR]
variable {t:TypeId}{ad:Addr}{vo fs gE aR cO cP:Nat}{J:(Nat→Int)→Bool→SP}{p:Pr}{aq adP:Option Addr}{fr:Int}{b:List UInt8}{g:Nat→Int}{bad:Bool}{o:gO}
theorem Yo {x:Int}(I:U W w (aa gE 336 (ij p aq cO t ad fr adP b.length cP aR)::L))(hx:du x)(hb:b.length≤1099511627776)(hp:∀ w',U W w' L→aX w' adP b.length b) :
   Calls prog 240 #[pt gE,.int .i32 x] w λe w'=>e=.returned (.int .i32 (mX b x))∧U W w' (aa gE 336 (ij p aq cO t ad fr adP b.length cP aR)::L):=by
 simp only[du]at hx;refine EN func240 ntmps240 rfl rfl λa E=>?_;refine BY 7 E I (λbD a E=>?_) λbD a E=>?_
 ·
  refine RT 12 E I ?_;exact⟨by rw[mX,ag (by omega)],I⟩
 refine SX 1 E I (by rw[gy (by omega) (by omega)]) λa E=>?_;refine IF 7 E I (λak a E=>?_) λak a E=>?_
 ·
  refine RT 2 E I ?_;exact⟨by rw[mX,ag (by omega)],I⟩
 refine RN 1 E I λa E=>?_;obtain⟨k,hk⟩:∃ k:Nat,x=(k:Int):=⟨x.toNat,by omega⟩;obtain⟨_,_,a6⟩:=hp _ I.tail;have zj:k<b.length:=by omega
 obtain⟨bp,op,hK,da⟩:∃ bp op,adP=some ⟨bp,op,none⟩∧Rd w bp op (bc b):=by
  cases hh:adP with
  | none =>
   have:=(hp _ I.tail).2.1 hh;omega
  | some a =>
   obtain⟨b1,o1,rfl,h1⟩:=a6 a hh (by omega);exact⟨b1,o1,rfl,h1⟩
 rw[hk]at E;refine RN 4 E I λa E=>?_;rw[hK]at E;refine RN 2 E I λa E=>?_;refine SS E (ae E (da k (.int .u8 b[k].toNat) (by simp[bc,zj]))) λa E=>?_;refine SX 0 E I (by have:=b[k].toNat_lt;exact iA (by omega) (by omega)) λa E=>?_;refine RT 1 E I ?_;refine⟨?_,I.sub⟩;rw[mX,aj (by omega),hk,c9,br,aD zj];rfl
theorem og {c:Nat}{v:Int}(h:dT g)(hv:du v):dT (cn g c v):=λd hd=>by
 simp only[cn];split
 ·exact hv
 ·exact h d hd
def q5 (x:Int)(m:Nat):Prop:=∃ n:Nat,x=(n:Int)∧n≤m
def mw (x:Int)(m:Nat):Prop:=∃ n:Nat,x=(n:Int)∧n<m
theorem q5.of {x:Int}{m:Nat}(h:0≤x∧x≤m):q5 x m:=⟨x.toNat,by omega,by omega⟩
theorem mw.of {x:Int}{m:Nat}(h:0≤x∧x<m):mw x m:=⟨x.toNat,by omega,by omega⟩
theorem Yp {M:zi W t ad vo fs J}{m:Nat}(I:U W w (aa gE 336 (ij p aq cO t ad fr adP b.length cP aR)::J g bad::L))(ho:e9 m o)(h0:o.code≠0)(h9:o.code≠9)(fO:o.code≠10)(LF:o.code≠13)
   (aF:p.title.size≤1000000000) (hb:b.length≤1099511627776) (hp:∀ w',U W w' L→aX w' adP b.length b) :
   Calls prog 230 #[pt gE,.agg (dS o).toArray] w λe w'=>e=.returned (.int .i32 (jW p fr b g o))∧U W w' (aa gE 336 (ij p aq cO t ad fr adP b.length cP aR)::J g bad::L):=by
 have hg:dT g:=M.ok _ _ g bad I.tail;have q6:=ho;simp only[e9,e8]at q6;have o8:o.code≠1→o.code≠15→mw o.b 32:=λh1 h2=>mw.of (by omega);have kT:3≤o.code∧o.code≤8→mw o.c 32:=λh=>mw.of (by omega);have sk:o.code≠1→o.code≠2→o.code≠11→o.code≠12→o.code≠14→o.code≠15→3≤o.code∧o.code≤8:=by omega
 clear q6;refine EN func230 ntmps230 rfl rfl λa E=>?_;refine BX 1 E I λb3 a w E I=>?_;change U W w (aa b3 114 (dS o)::_) at I;refine IF 8 E I (λak a E=>?_) λak a E=>?_
 ·
  refine RN 3 E I λa E=>?_;refine SS E (gA E fk tn) λa E=>?_;refine RT 1 E I ?_;exact⟨by simp[jW,ak];rfl,I.sub⟩
 refine IF 3 E I (λao a E=>?_) λao a E=>?_
 ·
  refine RN 1 E I λa E=>?_;obtain⟨bE,ec,o9⟩:=o8 (by omega) (by omega);refine bM 0 [5] [0,1,2,4,3003,1005,1006,7] E I λa w E I hH hC=>?_;refine RH 6 E I hH hC λa E=>?_;rw[ec]at E;refine jU E rfl M.o6 M.o7 rfl (M.get _ _ g bad bE o9 (I.pick (J g bad))) (by rfl) ?_;clear E I;rintro e w ⟨rfl,I⟩;refine⟨_,rfl,λa E=>?_⟩;refine RN 1 E I λa E=>?_;refine RT 0 E I ?_;exact⟨by simp[jW,ao,ec],I.sub⟩
 refine IF 3 E I (λay a E=>?_) λay a E=>?_
 ·
  refine RN 1 E I λa E=>?_;obtain⟨bE,ec,o9⟩:=o8 (by omega) (by omega);refine bM 0 [6] [0,1,2,3,5,3004,1006,1007,1008,9] E I λa w E I hH hC=>?_;refine RH 7 E I hH hC λa E=>?_;rw[ec]at E;refine jU E rfl M.o6 M.o7 rfl (M.get _ _ g bad bE o9 (I.pick (J g bad))) (by rfl) ?_;clear E I;rintro e w ⟨rfl,I⟩;refine⟨_,rfl,λa E=>?_⟩;refine CL 0 E I (Yo (I.j5 gE) (hg bE o9) hb (λw' h=>hp w' h.sub)) λa w E I=>?_;refine RN 1 E I λa E=>?_;refine RT 0 E I ?_;exact⟨by simp[jW,ay,ec],I.sub⟩
 refine IF 3 E I (λbl a E=>?_) λbl a E=>?_
 ·
  refine aV 1 (λw0 w'=>Rd w' gE 0 (ij p aq cO t ad fr adP b.length cP aR)∧Rd w' b3 0 (dS o)) [7,9,10,11] [0,1,2,4,5,6,8,3003,12,13,3007,1009,1010,1011,1014,15] E I λa w E I hH=>?_;obtain⟨bE,ec,o9⟩:=o8 (by omega) (by omega);have zk:=y7 (g bE);have jX:Rd w gE 0 (ij p aq cO t ad fr adP b.length cP aR):=I.ai;have gQ:Rd w b3 0 (dS o):=I.ai;have hC:=And.intro jX gQ;refine RH 7 E I hH hC λa E=>?_;refine QH E (λw hc=>ae E (hc.1 2 _ rfl)) hC λa E=>?_;refine RH 2 E I hH hC λa E=>?_;refine QH E (λw hc=>ae E (hc.1 2 _ rfl)) hC λa E=>?_;refine RH 0 E I hH hC λa E=>?_;refine SS E (ae E (hC.2 2 _ rfl)) λa E=>?_;rw[ec]at E;refine RH 0 E I hH hC λa E=>?_;refine jU E rfl M.o6 M.o7 rfl (M.get _ _ g bad bE o9 (I.pick (J g bad))) (by rfl) ?_;clear E I;rintro e w ⟨rfl,I⟩;refine⟨_,rfl,λa E=>?_⟩;replace hC:=hH.at w (And.intro I.ai I.ai);refine RH 0 E I hH hC λa E=>?_;refine CL 0 E I (LL I (hg bE o9)) λa w E I=>?_;replace hC:=hH.at w (And.intro I.ai I.ai);refine RH 0 E I hH hC λa E=>?_;refine jU E rfl M.o6 M.o7 rfl (M.get _ _ g bad (kS (g bE)) zk (I.pick (J g bad))) (by rfl) ?_;clear E I;rintro e w ⟨rfl,I⟩;refine⟨_,rfl,λa E=>?_⟩;refine RN 1 E I λa E=>?_;refine RT 0 E I ?_;exact⟨by simp[jW,bl,ec],I.sub⟩
 refine IF 3 E I (λbO a E=>?_) λbO a E=>?_
 ·
  refine aV 1 (λw0 w'=>Rd w' gE 0 (ij p aq cO t ad fr adP b.length cP aR)∧Rd w' b3 0 (dS o)) [8,10,11,12] [0,1,2,3,5,6,7,9,3004,3008,1010,1011,1012,1013,14] E I λa w E I hH=>?_;obtain⟨bE,ec,o9⟩:=o8 (by omega) (by omega);have LN:=hg bE o9;have Yq:=LN;simp only[du]at Yq;have jX:Rd w gE 0 (ij p aq cO t ad fr adP b.length cP aR):=I.ai;have gQ:Rd w b3 0 (dS o):=I.ai;have hC:=And.intro jX gQ;refine RH 8 E I hH hC λa E=>?_;refine QH E (λw hc=>ae E (hc.1 0 _ rfl)) hC λa E=>?_;refine QH E (λw hc=>ae E (hc.1 2 _ rfl)) hC λa E=>?_;refine RH 0 E I hH hC λa E=>?_;refine SS E (ae E (hC.2 2 _ rfl)) λa E=>?_;rw[ec]at E;refine RH 0 E I hH hC λa E=>?_;refine jU E rfl M.o6 M.o7 rfl (M.get _ _ g bad bE o9 (I.pick (J g bad))) (by rfl) ?_;clear E I;rintro e w ⟨rfl,I⟩;refine⟨_,rfl,λa E=>?_⟩;replace hC:=hH.at w (And.intro I.ai I.ai);refine RH 0 E I hH hC λa E=>?_;refine SX 0 E I (by rw[gy (by omega) (by omega)]) λa E=>?_;refine RH 0 E I hH hC λa E=>?_;refine CL 0 E I (Yn I (by omega) LN) λa w E I=>?_;refine RN 1 E I λa E=>?_;refine RT 0 E I ?_;exact⟨by simp[jW,bO,ec],I.sub⟩
 refine IF 3 E I (λeL a E=>?_) λeL a E=>?_
 ·
  refine RN 5 E I λa E=>?_;refine SS E (gA E fk lh) λa E=>?_;refine RN 0 E I λa E=>?_;refine SS E (gA E lh tn) λa E=>?_;refine RT 1 E I ?_;refine⟨?_,I.sub⟩;have e:IntKind.i32.wrap (IntKind.u32.wrap fr)=iz fr:=by
   simp only[iz,IntKind.wrap,IntKind.signed,IntKind.bits];have:fr%4294967296%4294967296=fr%4294967296:=Int.emod_emod_of_dvd _ (Int.dvd_refl _);simp[this]
  simp[jW,eL,e]
 refine RN 1 E I λa E=>?_;obtain⟨bE,ec,o9⟩:=o8 (by omega) (by omega);obtain⟨u3,p9,Yr⟩:=kT (sk ak ao ay bl bO eL);refine bM 0 [5] [0,1,2,4,3003,1005,1006,7] E I λa w E I hH hC=>?_;refine RH 6 E I hH hC λa E=>?_;rw[ec]at E;refine jU E rfl M.o6 M.o7 rfl (M.get _ _ g bad bE o9 (I.pick (J g bad))) (by rfl) ?_;clear E I;rintro e w ⟨rfl,I⟩;refine⟨_,rfl,λa E=>?_⟩;refine RN 1 E I λa E=>?_;refine aV 1 (λw0 w'=>Rd w' gE 0 (ij p aq cO t ad fr adP b.length cP aR)∧Rd w' b3 0 (dS o)) [6,8,9] [0,2,3,4,5,7,3001,3006,1008,1009,1010,11] E I λa w E I hH=>?_;have jX:Rd w gE 0 (ij p aq cO t ad fr adP b.length cP aR):=I.ai;have gQ:Rd w b3 0 (dS o):=I.ai;have hC:=And.intro jX gQ;refine RH 6 E I hH hC λa E=>?_;refine QH E (λw hc=>ae E (hc.2 0 _ rfl)) hC λa E=>?_;refine QH E (λw hc=>ae E (hc.1 2 _ rfl)) hC λa E=>?_;refine RH 0 E I hH hC λa E=>?_;refine SS E (ae E (hC.2 3 _ rfl)) λa E=>?_;rw[p9]at E;refine RH 0 E I hH hC λa E=>?_;refine jU E rfl M.o6 M.o7 rfl (M.get _ _ g bad u3 Yr (I.pick (J g bad))) (by rfl) ?_;clear E I;rintro e w ⟨rfl,I⟩;refine⟨_,rfl,λa E=>?_⟩;replace hC:=hH.at w (And.intro I.ai I.ai);refine RH 0 E I hH hC λa E=>?_;refine CL 0 E I (Ym I) λa w E I=>?_;refine RN 1 E I λa E=>?_;refine RT 0 E I ?_;exact⟨by simp[jW,ak,ao,ay,bl,bO,eL,ec,p9],I.sub⟩
theorem LO (s:ByteArray)(n:Int):du (ny s n):=by
 have hb:∀ pos,∀ x∈ef s pos,x.1<1114112:=by
  have h:∀ k pos,s.size-pos≤k→∀ x∈ef s pos,x.1<1114112:=by
   intro k
   induction k with
   | zero=>intro pos h x hx;rw[se (by omega)]at hx;simp at hx
   | succ k ih =>
    intro pos h x hx;by_cases hp:pos<s.size
    ·rw[sd hp]at hx;rcases List.mem_cons.1 hx with rfl | hx
     ·exact Xq s pos
     ·have:=(vh s pos).1;exact ih (ed s pos) (by rw[ed,aj hp];omega) x hx
    ·rw[se hp]at hx;simp at hx
  exact λpos=>h _ pos (a7 _)
 simp only[ny,du];split
 ·cases hx:(ef s 0)[n.toNat]? with
  | none=>simp
  | some x =>
   have:=hb 0 x (bI hx);simp only[Option.map_some,Option.getD_some];omega
 ·omega
theorem LP (k x y:Int):du (jm k x y):=by
 unfold jm;have h1:du 1:=by simp[du]
 have h0:du 0:=by simp[du]
 repeat' split
 all_goals first | exact y8 _ | exact h1 | exact h0
theorem LQ (b:List UInt8)(x:Int):du (mX b x):=by
 simp only[mX,du];split
 ·have:=(b.getD x.toNat 0).toNat_lt;omega
 ·omega
theorem LR {m:Int}(hg:dT g)(ho:e9 m o)(h9:o.code≠9)(fO:o.code≠10):du (jW p fr b g o):=by
 simp only[e9,e8]at ho;have hb:o.code≠1→o.code≠15→o.code≠0→o.b.toNat<32:=λh1 h2 h3=>by omega
 have h0:o.code=0→o.b.toNat<32:=λh=>by omega
 unfold jW;split
 ·exact y8 _
 ·split
  ·exact hg _ (hb (by omega) (by omega) (by omega))
  ·split
   ·exact LQ _ _
   ·split
    ·exact hg _ (y7 _)
    ·split
     ·exact LO _ _
     ·split
      ·exact y8 _
      ·exact LP _ _ _
set_option maxHeartbeats 4000000 in
theorem Ys {M:zi W t ad vo fs J}(I:U W w (aa gE 336 (ij p aq cO t ad fr adP b.length cP aR)::J g bad::aA W p aq cO::L))(a6:∀ o∈p.ops,e9 p.ops.length o)(eX:p.ops[aR]?=some o)
   (aF:p.title.size≤1000000000) (eb:p.ops.length≤1000000000) (hb:b.length≤1099511627776) (hp:∀ w',U W w' L→aX w' adP b.length b) :
   Calls prog 203 #[pt gE] w λe w'=>∃ (g':Nat→Int) (lY:Nat) (fy r:Bool),e=.returned (.bool r)∧(fy=false→bad=false∧et p fr b g aR o=(g',lY,r))∧lY≤p.ops.length ∧
    U W w' (aa gE 336 (ij p aq cO t ad fr adP b.length cP lY)::J g' fy::aA W p aq cO::L):=by
 have hg:dT g:=M.ok _ _ g bad I.tail;have ho:=a6 o (bI eX);have agx:=(a2.1 eX).1;have q6:=ho;simp only[e9,e8]at q6;have F0:o.code=9→q5 o.a p.ops.length:=λh=>q5.of (by omega);have kl:o.code≠9→o.code≠0→mw o.a 32:=λh h2=>mw.of (by omega);have F1:o.code=10→q5 o.b p.ops.length:=λh=>q5.of (by omega);have Yt:o.code=13→mw o.b 32:=λh=>mw.of (by omega);clear q6;refine EN func203 ntmps203 rfl rfl λa E=>?_;refine bM 3 [8,11] [0,1,2,3,5,6,7,3004,3008,9,3010,1011,1012] E I λa w E I hH hC=>?_;obtain⟨ld,oo,hK,gQ⟩:=I.sg aq (by omega);rw[hK]at I;replace hH:=Hd.gw I;refine RH 10 E I hH hC λa E=>?_;refine QH E (λw hc=>bT E rV rfl Ty.t114 (hc.rd (xh gQ eX))) hC λa E=>?_;refine RH 0 E I hH hC λa E=>?_;refine e5 E rfl I Ty.t114 rfl λb3 a w E I ho=>?_;replace hC:=hC.trans ho;clear ho;refine RH 0 E I hH hC λa E=>?_;refine SA 0 E I λa w E I=>?_;refine RN 0 E I λa E=>?_;rw[← hK]at I;replace E:=E.ab [0,3];refine ST 8 E I (λa w E I=>?_) (hlt:=(by simp[ij]));rw[show ((aR:Int)+1)=((aR+1:Nat):Int) from rfl]at I;change U W w (aa gE 336 (ij p aq cO t ad fr adP b.length cP (aR+1))::_) at I;refine IF 7 E I (λak a E=>?_) λak a E=>?_
 ·
  refine RT 2 E I ?_;exact⟨g,aR+1,bad,false,rfl,λh=>⟨h,by rw[et,aj ak]⟩,by omega,I.sub⟩
 refine IF 3 E I (λao a E=>?_) λao a E=>?_
 ·
  obtain⟨cF,dP,km⟩:=F0 ao;refine ST 5 E I (λa w E I=>?_) (hlt:=(by simp[ij]));rw[dP]at I;change U W w (aa gE 336 (ij p aq cO t ad fr adP b.length cP cF)::_) at I;refine RT 2 E I ?_;exact⟨g,cF,bad,true,rfl,λh=>⟨h,by rw[et,ag ak,aj ao,dP];rfl⟩,by omega,I.sub⟩
 refine IF 3 E I (λay a E=>?_) λay a E=>?_
 ·
  refine RN 1 E I λa E=>?_;obtain⟨cF,dP,km⟩:=kl ao ak;obtain⟨bE,ec,iU⟩:=F1 ay;refine bM 0 [5] [0,1,2,4,3003,1005,1006,7] E I λa w E I hH hC=>?_;refine RH 6 E I hH hC λa E=>?_;rw[dP]at E;refine jU E rfl M.o6 M.o7 rfl (M.get _ _ g bad cF km (I.pick (J g bad))) (by rfl) ?_;clear E I;rintro e w ⟨rfl,I⟩;refine⟨_,rfl,λa E=>?_⟩;refine RN 1 E I λa E=>?_;refine IF 0 E I (λbl a E=>?_) λbl a E=>?_
  ·
   refine ST 5 E I (λa w E I=>?_) (hlt:=(by simp[ij]));rw[ec]at I;change U W w (aa gE 336 (ij p aq cO t ad fr adP b.length cP bE)::_) at I;refine RT 2 E I ?_;exact⟨g,bE,bad,true,rfl,λh=>⟨h,by rw[et,ag ak,ag ao,aj ay,dP,ec,c9,aj bl];rfl⟩,by omega,I.sub⟩
  refine RT 2 E I ?_;exact⟨g,aR+1,bad,true,rfl,λh=>⟨h,by rw[et,ag ak,ag ao,aj ay,dP,c9,ag bl]⟩,by omega,I.sub⟩
 refine IF 3 E I (λbO a E=>?_) λbO a E=>?_
 ·
  refine RN 1 E I λa E=>?_;obtain⟨cF,dP,km⟩:=kl ao ak;obtain⟨bE,ec,iU⟩:=Yt bO;refine bM 0 [5] [0,1,2,4,3003,1005,1006,1007,8] E I λa w E I hH hC=>?_;refine RH 6 E I hH hC λa E=>?_;rw[dP]at E;refine jU E rfl M.o6 M.o7 rfl (M.get _ _ g bad cF km (I.pick (J g bad))) (by rfl) ?_;clear E I;rintro e w ⟨rfl,I⟩;refine⟨_,rfl,λa E=>?_⟩;refine CL 0 E I (LL I (hg cF km)) λa w E I=>?_;refine RN 1 E I λa E=>?_;refine aV 0 (λw0 w'=>Rd w' gE 0 (ij p aq cO t ad fr adP b.length cP (aR+1))∧Rd w' b3 0 (dS o)) [8,10,11] [0,1,2,4,5,6,7,9,3003,12,13,3008,1010,1011,1014] E I λa w E I hH=>?_;have jX:Rd w gE 0 (ij p aq cO t ad fr adP b.length cP (aR+1)):=I.ai;have kn:Rd w b3 0 (dS o):=I.ai;have hC:=And.intro jX kn;refine RH 8 E I hH hC λa E=>?_;refine QH E (λw hc=>ae E (hc.1 2 _ rfl)) hC λa E=>?_;refine RH 2 E I hH hC λa E=>?_;refine QH E (λw hc=>ae E (hc.1 2 _ rfl)) hC λa E=>?_;refine RH 0 E I hH hC λa E=>?_;refine SS E (ae E (hC.2 2 _ rfl)) λa E=>?_;rw[ec]at E;refine RH 0 E I hH hC λa E=>?_;refine jU E rfl M.o6 M.o7 rfl (M.get _ _ g bad bE iU (I.pick (J g bad))) (by rfl) ?_;clear E I;rintro e w ⟨rfl,I⟩;refine⟨_,rfl,λa E=>?_⟩;replace hC:=hH.at w (And.intro I.ai I.ai);refine RH 0 E I hH hC λa E=>?_;refine jU E rfl M.BV M.w1 rfl (M.set _ _ g bad (kS (g cF)) (g bE) (y7 _) (hg bE iU) (I.pick (J g bad))) (by rfl) ?_;clear E I;rintro e w ⟨g',fy,rfl,zc,I⟩;refine⟨_,rfl,λa E=>?_⟩;refine RT 2 E I ?_;refine⟨g',aR+1,fy,true,rfl,λh=>?_,by omega,I.sub⟩;obtain⟨_,h1,h2⟩:=zc.resolve_left (λh3=>by rw[h]at h3;cases h3.1);exact⟨h1,by rw[et,ag ak,ag ao,ag ay,aj bO,dP,ec,c9,c9,h2]⟩
 refine aV 0 (λw0 w'=>Rd w' gE 0 (ij p aq cO t ad fr adP b.length cP (aR+1))∧Rd w' b3 0 (dS o)) [5,7,8] [0,1,2,4,6,3003,9,10,3005,1007,1008,1011] E I λa w E I hH=>?_;obtain⟨cF,dP,km⟩:=kl ao ak;have jX:Rd w gE 0 (ij p aq cO t ad fr adP b.length cP (aR+1)):=I.ai;have kn:Rd w b3 0 (dS o):=I.ai;have hC:=And.intro jX kn;refine RH 5 E I hH hC λa E=>?_;refine QH E (λw hc=>ae E (hc.1 2 _ rfl)) hC λa E=>?_;refine RH 2 E I hH hC λa E=>?_;refine QH E (λw hc=>ae E (hc.2 1 _ rfl)) hC λa E=>?_;rw[dP]at E;refine RH 0 E I hH hC λa E=>?_;refine SS E (bT E rV rfl Ty.t114 (hC.2)) λa E=>?_;refine RH 0 E I hH hC λa E=>?_;refine CL 0 E I (Yp (M:=M) (L:=aa b3 114 (dS o)::aA W p aq cO::L) (I.sub (M:=aa gE 336 (ij p aq cO t ad fr adP b.length cP (aR+1))::J g bad::aa b3 114 (dS o)::aA W p aq cO::L)) ho ak ao ay bO aF hb (λw' h=>hp w' h.sub)) λa w E I=>?_;replace hC:=hH.at w (And.intro I.ai I.ai);refine RH 0 E I hH hC λa E=>?_;refine jU E rfl M.BV M.w1 rfl (M.set _ _ g bad cF (jW p fr b g o) km (LR hg ho ao ay) (I.pick (J g bad))) (by rfl) ?_;clear E I;rintro e w ⟨g',fy,rfl,zc,I⟩;refine⟨_,rfl,λa E=>?_⟩;refine RT 2 E I ?_;refine⟨g',aR+1,fy,true,rfl,λh=>?_,by omega,I.sub⟩;obtain⟨_,h1,h2⟩:=zc.resolve_left (λh3=>by rw[h]at h3;cases h3.1);exact⟨h1,by rw[et,ag ak,ag ao,ag ay,ag bO,dP,c9,h2]⟩
theorem F2 {n:Nat}(h:p.ops[aR]?=some o):qY p fr b (n+1) g aR=if (et p fr b g aR o).2.2 then qY p fr b n (et p fr b g aR o).1 (et p fr b g aR o).2.1 else (et p fr b g aR o).1:=by
 rw[qY];simp only[h]
theorem F3 {n:Nat}(h:p.ops.length≤aR):qY p fr b n g aR=g:=by
 cases n with
 | zero=>rfl
 | succ n=>rw[qY];simp only[iO h]
set_option maxHeartbeats 4000000 in
theorem LS {M:zi W t ad vo fs J}(I:U W w (J g bad::aA W p aq cO::L))(a6:dp p)(aF:p.title.size≤1000000000)(hb:b.length≤1099511627776)(hp:∀ w',U W w' L→aX w' adP b.length b) :
   Calls prog 174 #[.agg (bR p aq cO).toArray,.iface t (.pointer (some ad)),.int .i64 fr,.slice adP b.length cP] w λe w'=>∃ (g':Nat→Int) (fy:Bool) (n:Int),e=.returned (.int .i64 n)∧(fy=false→bad=false∧g'=fa p fr b g) ∧
    U W w' (J g' fy::aA W p aq cO::L):=by
 have eb:p.ops.length≤64:=a6.1.2.2.1;refine EN func174 ntmps174 rfl rfl λa E=>?_;refine BX 1 E I λb4 a w E I=>?_;change U W w (aa b4 45 (bR p aq cO)::_) at I;refine RN 6 E I λa E=>?_;replace E:=E.aQ 13;refine bg 1 E I (FZ (I.pick (aA W p aq cO)) aF (by omega)) λr a w E ⟨hr,I⟩=>?_;rw[hr.2 a6]at E;refine RN 1 E I λa E=>?_;rw[show (!true)=false from rfl]at E;refine RN 1 E I λa E=>?_;replace E:=E.aQ 17;refine RN 3 E I λa E=>?_;change Fr a 42 ((18,.agg (List.toArray [.string p.title,.slice aq p.ops.length cO]))::_) at E;refine BX 4 E I λxt a w E I=>?_;change U W w (aa xt 336 (ij p aq cO t ad fr adP b.length cP 0)::_) at I;refine RN 4 E I λa E=>?_;refine aL (λμ a w=>∃ (n aR:Nat) (g':Nat→Int) (fy:Bool),(μ=200-n∧n≤200∧aR≤p.ops.length∧(fy=false→bad=false∧qY p fr b (200-n) g' aR=fa p fr b g))∧Fr a 42 [(4,pt b4),(9,pt xt),(10,.int .i64 n)]∧U W w (aa xt 336 (ij p aq cO t ad fr adP b.length cP aR)::aa b4 45 (bR p aq cO)::J g' fy::aA W p aq cO::L)) (200) (⟨0,0,g,bad,⟨by simp,by simp,by simp,λh=>⟨h,rfl⟩⟩,E.ab [4,9,10],I.sub⟩) ?_;clear E I;rintro μ a w ⟨n,aR,g',fy,⟨rfl,hn,eX,pa⟩,E,I⟩;refine bM 2 [8,9] [0,1,2,3,4,5,7,3006,1008,1009,10,11] E I λa w E I hH hC=>?_;refine RH 3 E I hH hC λa E=>?_;refine E.by (s:=26) (λbD E=>?_) (λbD E=>?_)
 ·
  refine RH 9 E I hH hC λa E=>?_;refine IF 0 E I (λao a E=>?_) λao a E=>?_
  ·
   obtain⟨o,ho⟩:∃ o,p.ops[aR]?=some o:=⟨_,aD (by omega)⟩;have aS:=F2 (p:=p) (fr:=fr) (b:=b) (g:=g') (n:=200-(n+1)) ho;rw[show 200-(n+1)+1=200-n from by omega]at aS;refine ka 6 E I (Ys (M:=M) (L:=aa b4 45 (bR p aq cO)::L) (I.sub (M:=aa xt 336 (ij p aq cO t ad fr adP b.length cP aR)::J g' fy::aA W p aq cO::aa b4 45 (bR p aq cO)::L)) a6.2 ho aF (by omega) hb (λw' h=>hp w' h.tail)) ?_;clear E I;rintro e w ⟨nr,lY,BW,r2,rfl,fZ,BZ,I⟩;refine⟨_,rfl,λa E=>?_⟩;refine IF 1 E I (λay a E=>?_) λay a E=>?_
   ·
    have w7:r2=false:=by simpa using ay
    have F4:BW=false→bad=false∧nr=fa p fr b g:=λh=>by
     obtain⟨h1,h2⟩:=fZ h;obtain⟨h3,h4⟩:=pa h1;refine⟨h3,?_⟩;rw[aS,h2,w7]at h4;exact h4
    refine RT 3 E I ?_;exact⟨nr,BW,_,rfl,F4,I.sub⟩
   have p7:r2=true:=by simpa using ay
   refine RN 0 E I λa E=>?_;refine⟨200-(n+1),by omega,n+1,lY,nr,BW,⟨rfl,by omega,BZ,λh=>?_⟩,E.ab [4,9,10],I.sub⟩;obtain⟨h1,h2⟩:=fZ h;obtain⟨h3,h4⟩:=pa h1;refine⟨h3,?_⟩;rw[aS,h2,p7]at h4;exact h4
  refine RT 3 E I ?_;refine⟨g',fy,_,rfl,λh=>?_,I.sub⟩;obtain⟨h3,h4⟩:=pa h;rw[F3 (by omega)]at h4;exact⟨h3,h4⟩
 have qa:n=200:=by omega
 refine RH 9 E I hH hC λa E=>?_;refine RT 4 E I ?_;refine⟨g',fy,_,rfl,λh=>?_,I.sub⟩;obtain⟨h3,h4⟩:=pa h;rw[qa]at h4;exact⟨h3,h4⟩
end
end
section
def distinct:List Nat→Nat
 | []=>0
 | x::l=>distinct l+if x∈l then 0 else 1
def lv (l:List aC):List Nat:=l.flatMap λx=>[x.p 0,x.p 1,x.p 2,x.p 3]
theorem Yu {l:List aC}{p:Nat}:p∈lv l↔0<cS l p:=by
 induction l with
 | nil=>simp[lv,cS]
 | cons x l ih =>
  rw[tD];have h1:lv (x::l)=[x.p 0,x.p 1,x.p 2,x.p 3]++lv l:=rfl;rw[h1,e7,ih];constructor
  ·rintro (h | h)
   ·have h2 : 0 < ic x p := KP.2 (by
     simp at h;rcases h with h | h | h | h
     ·exact⟨0,by omega,h.symm⟩
     ·exact⟨1,by omega,h.symm⟩
     ·exact⟨2,by omega,h.symm⟩
     ·exact⟨3,by omega,h.symm⟩)
    omega
   ·omega
  ·intro h;by_cases h2:0<ic x p
   ·left;obtain⟨k,hk,rfl⟩:=KP.1 h2;rcases (by omega:k=0∨k=1∨k=2∨k=3) with rfl | rfl | rfl | rfl <;> simp
   ·right;omega
theorem Yv (n:Nat)(f:Nat→Bool)(x:Nat)(hx:x<n)(h0:f x=false):(List.range n).countP (λp=>p==x||f p)=(List.range n).countP f+1:=by
 induction n with
 | zero=>omega
 | succ n ih =>
  rw[range_succ,List.countP_append,List.countP_append,List.countP_singleton,List.countP_singleton];by_cases hn:x=n
  ·subst hn;have:(List.range x).countP (λp=>p==x||f p)=(List.range x).countP f:=countP_congr λp hp=>by
    have:p<x:=mem_range.1 hp;have h2:(p==x)=false:=by simp;omega
    simp[h2]
   rw[this,h0];simp
  ·have h2:(n==x)=false:=by simp;omega
   rw[ih (by omega),h2];simp;omega
theorem LU (n:Nat):∀ l:List Nat,(∀ p∈l,p<n)→(List.range n).countP (λp=>decide (p∈l))=distinct l
 | [],_=>by simp[distinct]
 | x::l,h=>by
  have ih:=LU n l λp hp=>h p (gx _ hp);rw[distinct,← ih];by_cases hx:x∈l
  ·rw[aj hx,Nat.add_zero];refine countP_congr λp _=>?_;simp only[List.mem_cons,qK];exact⟨λhp=>by rcases hp with rfl | hp;exact hx;exact hp,λhp=>.inr hp⟩
  ·rw[ag hx];have:=Yv n (λp=>decide (p∈l)) x (h x iq) (by simp[hx]);rw[← this];refine countP_congr λp _=>?_;simp
theorem Yw {A:Sn}(h:∀ x∈A.ar,∀ k,k<4→x.p k<A.room):A.used=distinct (lv A.ar):=by
 rw[← LU A.room (lv A.ar) (λp hp=>?_)]
 ·rw[Sn.used];refine countP_congr λp _=>?_;simp[Yu]
 ·simp only[lv,List.mem_flatMap]at hp;obtain⟨x,hx,hp⟩:=hp;simp at hp;rcases hp with rfl | rfl | rfl | rfl <;> exact h x hx _ (by omega)
section
variable {W w:World}{L R:List SP}{q r:Nat}{A:Sn}
class xu (L:List SP)(q:Nat)(r:outParam Nat)(A:outParam Sn)(R:outParam (List SP)):Prop where perm:L.Perm (ax q r A::R)
instance xu.head {L q r A}:xu (ax q r A::L) q r A L:=⟨lL _⟩
instance (priority:=low) xu.tail {B L q r A R}[h:xu L q r A R]:xu (B::L) q r A (B::R):=⟨(kE B h.perm).trans (c1 _ _ _)⟩
theorem U.store (I:U W w L)(q:Nat)[k:xu L q r A R]:U W w (ax q r A::R):=I.perm k.perm
theorem ax.facts (I:U W w (ax q r A::L)):WF A∧∀ x∈A.ar,∀ k,k<4→x.p k<A.room:=by
 obtain⟨b,m,ps,xs,h1,hw,hr,I⟩:=ax.open I;exact⟨hw,λx hx k hk=>by rw[← hr.len];exact (hr.live hx hk).1⟩
theorem ax.used (I:U W w (ax q r A::L)):A.used=distinct (lv A.ar):=Yw (ax.facts I).2
end
end
section
theorem Yx (l:List aC)(p:Nat):(lv l).count p=cS l p:=by
 induction l with
 | nil=>rfl
 | cons x l ih =>
  have h1:lv (x::l)=[x.p 0,x.p 1,x.p 2,x.p 3]++lv l:=rfl;rw[h1,List.count_append,ih,tD,u9];simp only[List.count_cons,List.count_nil,beq_iff_eq];omega
theorem LV (p:Nat):∀ l:List Nat,distinct l+(l.count p-1)≤l.length
 | []=>by simp[distinct]
 | x::l=>by
  have ih:=LV p l;rw[distinct,List.count_cons,eV];by_cases hx:x=p
  ·subst hx;by_cases hm:x∈l
   ·have:=List.count_pos_iff.2 hm;simp[hm];omega
   ·have:=List.count_eq_zero.2 hm;simp[hm];omega
  ·have h1:(x==p)=false:=by simpa using hx
   simp only[h1,Bool.false_eq_true,if_false,Nat.add_zero];split <;> omega
theorem Yy (l:List aC):(lv l).length=4*l.length:=by
 induction l with
 | nil=>rfl
 | cons x l ih =>
  have h1:lv (x::l)=[x.p 0,x.p 1,x.p 2,x.p 3]++lv l:=rfl;rw[h1,aM,ih,eV];simp;omega
section
variable {W w:World}{L:List SP}{q r i bc:Nat}{A:Sn}{x px:aC}
theorem ax.shared (I:U W w (ax q r A::L)){p:Nat}(h:1<cS A.ar p):A.used<4*A.ar.length:=by
 have h1:=LV p (lv A.ar);rw[← ax.used I,Yx,Yy]at h1;omega
theorem Yz {c:Nat}{v:Int}(I:U W w (ax q r A::L))(hx:A.ar[i]?=some x)(hc:c<32) :
   Calls prog 346 #[pt q,.int .i64 x.id,.int .i64 c,.int .i32 v] w λe w'=>∃ (ok:Bool) (p':Nat→Nat),e=.returned (.bool ok)∧(ok=false→¬ 4*A.ar.length≤A.room) ∧
    ((ok=true∧U W w' (ax q r { A with ar:=A.ar.set i { x with g:=cn x.g c v,p:=p' } }::L))∨(ok=false∧U W w' (ax q r A::L))):=by
 have pc:c/8<4:=by omega
 by_cases h1:1<cS A.ar (x.p (c/8))
 ·by_cases hu:A.used<A.room
  ·exact (WL (v:=v) I hx hc h1 hu).mono λe w' ⟨f,h2,_,I⟩=>⟨true,λj=>if j=c/8 then f else x.p j,h2,λh=>(by cases h),.inl ⟨rfl,I⟩⟩
  ·have hsh:=ax.shared I h1;exact (WM (v:=v) I hx hc h1 (by omega)).mono λe w' ⟨h2,I⟩=>⟨false,x.p,h2,λ_=>by omega,.inr ⟨rfl,I⟩⟩
 ·have h3 : cS A.ar (x.p (c / 8)) = 1 := by
   have h4:=va (bI hx) (x.p (c/8));have h5:=tC (x:=x) pc;omega
  exact (WJ (v:=v) I hx hc h3).mono λe w' ⟨h2,I⟩=>⟨true,x.p,h2,λh=>(by cases h),.inl ⟨rfl,I⟩⟩
theorem YA {g:Nat→Int}{c:Nat}{v:Int}(h:dT g)(hv:du v):dT (cn g c v):=λj hj=>by
 simp only[cn];split
 ·exact hv
 ·exact h j hj
def Jw (q r bc i:Nat)(A:Sn)(px:aC)(g:Nat→Int)(bad:Bool):SP:=λh=>∃ p':Nat→Nat,(dT g∧(bad=true→¬ 4*A.ar.length≤A.room)) ∧
 cp [aa bc 307 [pt q,.int .i64 px.id,.bool bad],ax q r { A with ar:=A.ar.set i ⟨px.id,px.refs,g,p'⟩ }] h
theorem Jw.open {g:Nat→Int}{bad:Bool}(I:U W w (Jw q r bc i A px g bad::L)):∃ p':Nat→Nat,(dT g∧(bad=true→¬ 4*A.ar.length≤A.room)) ∧
   U W w (aa bc 307 [pt q,.int .i64 px.id,.bool bad]::ax q r { A with ar:=A.ar.set i ⟨px.id,px.refs,g,p'⟩ }::L):=by
 obtain⟨p',h1,h2⟩:=I.jS (ι:=Nat→Nat) (p:=λ_=>dT g∧(bad=true→¬ 4*A.ar.length≤A.room)) (B:=λp' h=>cp [aa bc 307 [pt q,.int .i64 px.id,.bool bad],ax q r { A with ar:=A.ar.set i ⟨px.id,px.refs,g,p'⟩ }] h) (λh ⟨p',h1,h2⟩=>⟨p',h1,h2⟩);exact⟨p',h1,h2.open λ_ h=>h⟩
theorem Jw.close {g:Nat→Int}{bad:Bool}{p':Nat→Nat}(I:U W w (aa bc 307 [pt q,.int .i64 px.id,.bool bad]::ax q r { A with ar:=A.ar.set i ⟨px.id,px.refs,g,p'⟩ }::L))(h1:dT g)(h2:bad=true→¬ 4*A.ar.length≤A.room) :
   U W w (Jw q r bc i A px g bad::L):=U.shut (M:=[_,_]) I (λ_ x=>⟨p',⟨h1,h2⟩,x⟩)
theorem YB {g:Nat→Int}{bad:Bool}{c:Nat}(hx:i<A.ar.length)(hc:c<32)(I:U W w (Jw q r bc i A px g bad::L)) :
   Calls prog 353 (List.toArray [pt bc,.int .i64 c]) w λe w'=>e=.returned (.int .i32 (g c))∧U W w' (Jw q r bc i A px g bad::L):=by
 obtain⟨p',⟨h1,h2⟩,I⟩:=Jw.open I;refine EN func353 ntmps353 rfl rfl λa E=>?_;refine bM 3 [7] [0,1,2,4,5,6,8,3003,1007,1009,10,11,12,13,14] E I λa w E I hH hC=>?_;refine RH 9 E I hH hC λa E=>?_;refine CL 0 E I (KW (i:=i) (x:=⟨px.id,px.refs,g,p'⟩) (I.store q) (by simp[hx]) hc) λa w E I=>?_;refine RN 5 E I λa E=>?_;refine RT 3 E I ?_;exact⟨rfl,Jw.close (p':=p') I.sub h1 h2⟩
theorem YC {g:Nat→Int}{bad:Bool}{c:Nat}{v:Int}(hx:i<A.ar.length)(hc:c<32)(hv:du v)(I:U W w (Jw q r bc i A px g bad::L)) :
   Calls prog 354 (List.toArray [pt bc,.int .i64 c,.int .i32 v]) w λe w'=>∃ (g':Nat→Int) (fy:Bool),e=.returned (.tuple #[])∧((fy=true∧g'=g)∨(fy=false∧bad=false∧g'=cn g c v))∧U W w' (Jw q r bc i A px g' fy::L):=by
 obtain⟨p',⟨h1,h2⟩,I⟩:=Jw.open I;refine EN func354 ntmps354 rfl rfl λa E=>?_;refine bM 0 [13] [0,1,2,3,1004,5,6,7,8,10,11,12,14,15,3009,1013,1016,17,18,19,20,1021] E I λa w E I hH hC=>?_;refine RH 6 E I hH hC λa E=>?_;refine E.by (s:=11) (λjr E=>?_) (λjr E=>?_)
 ·
  refine RH 15 E I hH hC λa E=>?_;refine ST 0 E I (λa w E I=>?_);refine RT 0 E I ?_;exact⟨g,true,rfl,.inl ⟨rfl,rfl⟩,Jw.close (p':=p') I.sub h1 (λ_=>h2 jr)⟩
 refine RH 10 E I hH hC λa E=>?_;refine aY 0 E I (Yz (i:=i) (x:=⟨px.id,px.refs,g,p'⟩) (v:=v) (I.store q) (by simp[hx]) hc) λok p2 a w E ⟨ds,YD⟩=>?_;obtain⟨K7,I⟩:(ok=ok)∧U W w (ax q r { A with ar:=A.ar.set i ⟨px.id,px.refs,if ok then cn g c v else g,if ok then p2 else p'⟩ }::aa bc 307 [pt q,.int .i64 px.id,.bool bad]::L):=by
  refine⟨rfl,?_⟩;rcases YD with ⟨rfl,I⟩ | ⟨rfl,I⟩
  ·simp only[set_set]at I;exact I
  ·exact I
 refine ST 4 E I (λa w E I=>?_);refine RT 0 E I ?_;refine⟨if ok then cn g c v else g,!ok,rfl,?_,Jw.close (p':=if ok then p2 else p') I.sub ?_ (λh=>?_)⟩
 ·cases ok
  ·exact .inl ⟨rfl,rfl⟩
  ·exact .inr ⟨rfl,jr,rfl⟩
 ·cases ok
  ·exact h1
  ·exact YA h1 hv
 ·have:=ds (by simpa using h);simpa using this
theorem YE (hx:i<A.ar.length):zi W 305 ⟨bc,0,none⟩ 353 354 (Jw q r bc i A px) where
 o6:=λad w=>by kernel_rfl
 o7:=(by kernel_rfl)
 BV:=λad w=>by kernel_rfl
 w1:=(by kernel_rfl)
 ok:=λw L g bad h=>by obtain⟨_,⟨h1,_⟩,_⟩:=Jw.open h;exact h1
 get:=λw L g bad c hc h=>YB hx hc h
 set:=λw L g bad c v hc hv h=>YC hx hc hv h
end
end
section
abbrev cz (p:Pr)(aq:Option Addr)(cO tq jq sq:Nat)(k:Wk):List Value :=
 [.string p.title,.slice aq p.ops.length cO,pt tq,pt jq,pt sq,.bool k.busy,.int .i64 k.jb,.int .i64 k.je,.int .i64 k.x,.int .i64 k.done,.bool k.mY]
section
variable {W w:World}{L:List SP}{tq jq sq r wb i kk cO:Nat}{aq:Option Addr}{A:Sn}{T:Tr}{J:Js}{k:Wk}{p:Pr}{x:Br}{px:aC}
theorem LW (I:U W w (aa wb 247 (cz p aq cO tq jq sq k)::L)) :
   Calls prog 184 #[pt wb] w λe w'=>e=.returned (.bool k.busy)∧U W w' (aa wb 247 (cz p aq cO tq jq sq k)::L):=by
 refine EN func184 ntmps184 rfl rfl λa E=>?_;refine RN 6 E I λa E=>?_;replace E:=E.ek 5;refine RT 6 E I ?_;exact⟨rfl,I⟩
theorem zl (I:U W w (aa wb 247 (cz p aq cO tq jq sq k)::ax sq r A::L))(hb:k.busy=true) :
   Calls prog 145 #[pt wb] w λe w'=>e=.returned (.bool true)∧U W w' (aa wb 247 (cz p aq cO tq jq sq { k with busy:=false })::ax sq r (A.eB k.x)::L):=by
 refine EN func145 ntmps145 rfl rfl λa E=>?_;refine CL 5 E I (LW I) λa w E I=>?_;rw[hb]at E;refine RN 1 E I λa E=>?_;replace E:=E.aQ 5;refine bM 2 [7] [0,1,2,4,5,6,3003,1007,1008] E I λa w E I hH hC=>?_;refine RH 8 E I hH hC λa E=>?_;refine bg 0 E I (BI (I.store sq)) λv a w E I=>?_;refine ST 4 E I (λa w E I=>?_) (hlt:=(by simp[cz]));change U W w (aa wb 247 (cz p aq cO tq jq sq { k with busy:=false })::_) at I;refine RT 2 E I ?_;exact⟨rfl,I.sub⟩
theorem LX (I:U W w (aa wb 247 (cz p aq cO tq jq sq k)::L))(hb:k.busy=false) :
   Calls prog 145 #[pt wb] w λe w'=>e=.returned (.bool false)∧U W w' (aa wb 247 (cz p aq cO tq jq sq k)::L):=by
 refine EN func145 ntmps145 rfl rfl λa E=>?_;refine CL 5 E I (LW I) λa w E I=>?_;rw[hb]at E;refine RN 1 E I λa E=>?_;replace E:=E.ek 5;refine RT 3 E I ?_;exact⟨rfl,I⟩
theorem B0 {id:Int}(I:U W w (Tree tq sq T::L)) :
   Calls prog 143 #[pt tq,.int .i64 id] w λe w'=>∃ (x:Br) (ad:Option Addr) (c:Nat) (ok:Bool),e=.returned (.tuple #[.agg (ck x ad c).toArray,.bool ok])∧((ok=true∧x∈T.l∧(x.id:Int)=id)∨(ok=false∧∀ y∈T.l,(y.id:Int)≠id)) ∧
    U W w' (cj ad x.al.length c x.al::Tree tq sq T::L):=by
 by_cases h:∃ x∈T.l,(x.id:Int)=id
 ·obtain⟨x,hx,rfl⟩:=h;obtain⟨k,hk⟩:=ke.1 hx;exact (y0 I hk).mono λe w' ⟨ad,c,h1,I⟩=>⟨x,ad,c,true,h1,.inl ⟨rfl,hx,rfl⟩,I⟩
 ·have hn:∀ y∈T.l,(y.id:Int)≠id:=λy hy e=>h ⟨y,hy,e⟩;exact (Xa I hn).mono λe w' ⟨h1,I⟩=>⟨⟨0,0,[],0,0⟩,none,0,false,h1,.inr ⟨rfl,hn⟩,cj.nil I⟩
theorem YF {id:Nat}(I:U W w (ax sq r A::L))(hx:A.ar[i]?=some px)(b9:px.id=id)(hb:A.n+1<1099511627776) :
   Calls prog 181 #[pt sq,.int .i64 id] w λe w'=>e=.returned (.tuple #[.int .i64 ((A.last+1:Nat):Int),.bool true])∧U W w' (ax sq r (A.add px.g px.p)::L):=by
 subst b9;exact KZ I hx hb
theorem YG {d:Nat}{id:Nat}(I:U W w (Tree tq sq T::ax sq r A::L))(hx:T.l[kk]?=some x)(kQ:d≤x.al.length)(hp:A.ar[i]?=some px)(b9:px.id=id) :
   Calls prog 186 #[pt tq,.int .i64 x.id,.int .i64 d,.int .i64 id] w λe w'=>e=.returned (.bool (decide (x.done<d))) ∧
    ((x.done<d∧U W w' (Tree tq sq (T.iT kk x d id)::ax sq r (A.eB x.snap)::L))∨(d≤x.done∧U W w' (Tree tq sq T::ax sq r A::L))):=by
 subst b9;by_cases h:x.done<d
 ·exact (Xh I hx h kQ hp).mono λe w' ⟨h1,I⟩=>⟨by rw[h1,dr h],.inl ⟨h,I⟩⟩
 ·exact (Xf (d:=(d:Int)) (i:=i) (px:=px) I hx (.inl (by omega))).mono λe w' ⟨h1,I⟩=>⟨by rw[h1,bu h],.inr ⟨by omega,I⟩⟩
theorem YH {A:Sn}{i:Nat}{px:aC}{g:Nat→Int}{p':Nat→Nat}(hA:WF A)(hB:WF { A with ar:=A.ar.set i ⟨px.id,px.refs,g,p'⟩ })(hi:A.ar[i]?=some px)(hr:px.refs=1) :
   ({ A with ar:=A.ar.set i ⟨px.id,px.refs,g,p'⟩ }:Sn).eB px.id=A.eB px.id:=by
 have hl:=(a2.1 hi).1;rw[y4 hA hi,y4 (px:=⟨px.id,px.refs,g,p'⟩) hB (i:=i) (by simp[hl])];simp[Sn.drop,hr,eraseIdx_set_eq]
theorem YI (I:U W w (aa wb 247 (cz p aq cO tq jq sq k)::Tree tq sq T::ax sq r A::bJ jq J::L))(hb:k.busy=false)(YJ:∀ x∈T.l,∃ (i:Nat) (px:aC),A.ar[i]?=some px∧px.id=x.snap)(hn:A.n+1<1099511627776) :
   Calls prog 142 #[pt wb] w λe w'=>∃ (z:Bool) (A':Sn) (J':Js) (k':Wk),e=.returned (.bool z)∧lT p A T J k z A' T J' k' ∧
    U W w' (aa wb 247 (cz p aq cO tq jq sq k')::Tree tq sq T::ax sq r A'::bJ jq J'::L):=by
 refine EN func142 ntmps142 rfl rfl λa E=>?_;refine CL 7 E I (XK (I.vk jq)) λa w E I=>?_;refine AL 3 E I λb3 a w E I=>?_;refine SA 0 E I λa w E I=>?_;refine IF 5 E I (λak a E=>?_) λak a E=>?_
 ·
  obtain rfl:J=[]:=by simpa using ak
  change U W w (aa b3 245 [.int .i64 0,.int .i64 0]::bJ jq []::_) at I;refine RT 2 E I ?_;exact⟨false,A,[],k,rfl,.idle hb rfl,I.sub⟩
 obtain⟨j,J',rfl⟩:∃ j J',J=j::J':=by
  cases J with
  | nil=>simp at ak
  | cons j J'=>exact⟨j,J',rfl⟩
 change U W w (aa b3 245 [.int .i64 j.1,.int .i64 j.2]::bJ jq J'::_) at I;replace E:=E.ab [0,3];clear ak;refine RN 0 E I λa E=>?_;refine b6 (M:=λa w=>∃ (b5:Nat) (x:Br) (ad:Option Addr) (c:Nat) (ok:Bool),((ok=true∧x∈T.l∧(x.id:Int)=j.1)∨(ok=false∧∀ y∈T.l,(y.id:Int)≠j.1))∧Fr a 85 [(0,pt wb),(3,pt b3),(5,pt b5),(6,.bool ok)]∧U W w (aa b5 238 (ck x ad c)::aa b3 245 [.int .i64 j.1,.int .i64 j.2]::bJ jq J'::aa wb 247 (cz p aq cO tq jq sq k)::Tree tq sq T::ax sq r A::L)) ?_ ?_
 ·
  refine aV 0 (λw0 w'=>Rd w' wb 0 (cz p aq cO tq jq sq k)∧Rd w' b3 0 [.int .i64 j.1,.int .i64 j.2]) [5,10] [0,1,2,4,3003,3005,2006,7,8,9,1010,1011,12] E I λa w E I hH=>?_;have hC:=hH.at w (And.intro I.ai I.ai);refine RH 4 E I hH hC λa E=>?_;refine QH E (λw hc=>ae E (hc.1 2 _ rfl)) hC λa E=>?_;refine QH E (λw hc=>ae E (hc.2 0 _ rfl)) hC λa E=>?_;refine RH 0 E I hH hC λa E=>?_;refine DN [(6,[7,8,9,1010,1011,12]),(10,[1006,7,8,9,1011,12])] (by kernel_rfl) rfl ⟨⟨_,rfl,?_⟩,⟨_,rfl,?_⟩,trivial⟩
  ·
   refine RH 0 E I hH hC λa E=>?_;refine ka 0 E I (B0 (id:=j.1) (I.tree tq)) ?_;clear E I;rintro e w ⟨x,ad,c,ok,rfl,ds,I⟩;refine⟨_,rfl,λa E=>?_⟩;refine RN 3 E I λa E=>?_;refine e5 E rfl I Ty.t238 rfl λb5 a w E I ho=>?_;clear ho;replace hC:=hH.at w (And.intro I.ai I.ai);refine RH 0 E I hH hC λa E=>?_;refine SA 0 E I λa w E I=>?_;refine RN 1 E I λa E=>?_;exact⟨_,x,ad,c,ok,ds,E.ab [0,3,5,6],I.sub⟩
  refine RH 0 E I hH hC λa E=>?_;refine e5 E rfl I Ty.t238 rfl λb5 a w E I ho=>?_;clear ho;replace hC:=hH.at w (And.intro I.ai I.ai);refine RH 0 E I hH hC λa E=>?_;refine ka 0 E I (B0 (id:=j.1) (I.tree tq)) ?_;clear E I;rintro e w ⟨x,ad,c,ok,rfl,ds,I⟩;refine⟨_,rfl,λa E=>?_⟩;refine SA 3 E I λa w E I=>?_;refine RN 1 E I λa E=>?_;exact⟨_,x,ad,c,ok,ds,E.ab [0,3,5,6],I.sub⟩
 clear E;(try clear I);rintro a w ⟨b5,x,ad,c,ok,ds,E,I⟩;refine aV 2 (λw0 w'=>Rd w' wb 0 (cz p aq cO tq jq sq k)∧Rd w' b3 0 [.int .i64 j.1,.int .i64 j.2]∧Rd w' b5 0 (ck x ad c)) [5,6,16,17] [0,2,3,4,3001,1005,1006,7,8,9,10,11,12,13,15,3014,1016,1017,18,19] E I λa w E I hH=>?_;have hC:=hH.at w ⟨I.ai,I.ai,I.ai⟩;refine RH 4 E I hH hC λa E=>?_;refine QH E (λw hc=>ae E (hc.2.1 1 _ rfl)) hC λa E=>?_;refine RH 1 E I hH hC λa E=>?_;refine CL 0 E I (BF (I.tree tq)) λa w E I=>?_;replace hC:=hH.at w ⟨I.ai,I.ai,I.ai⟩;refine RH 2 E I hH hC λa E=>?_;refine E.by (s:=36) (λfm E=>?_) (λfm E=>?_)
 ·
  refine RH 11 E I hH hC λa E=>?_;refine RT 3 E I ?_;exact⟨true,A,J',k,rfl,.y9 hb rfl (.inl fm),I.sub⟩
 refine RH 4 E I hH hC λa E=>?_;refine E.by (s:=40) (λhJ E=>?_) (λhJ E=>?_)
 ·
  have bX:∀ y∈T.l,(y.id:Int)≠j.1:=by
   rcases ds with ⟨h,_⟩ | ⟨_,h⟩
   ·rw[h]at hJ;cases hJ
   ·exact h
  refine RH 7 E I hH hC λa E=>?_;refine RT 3 E I ?_;exact⟨true,A,J',k,rfl,.y9 hb rfl (.inr (.inl bX)),I.sub⟩
 obtain⟨hx,b9⟩:x∈T.l∧(x.id:Int)=j.1:=by
  rcases ds with ⟨_,h⟩ | ⟨h,_⟩
  ·exact h
  ·rw[h]at hJ;cases hJ
 refine RH 2 E I hH hC λa E=>?_;refine QH E (λw hc=>ae E (hc.2.2 3 _ rfl)) hC λa E=>?_;refine RH 0 E I hH hC λa E=>?_;refine bA E (cv E rfl (s:=40)) (ae E (hC.2.2 2 _ rfl)) rfl λa E=>?_;refine RH 3 E I hH hC λa E=>?_;refine IF 0 E I (λao a E=>?_) λao a E=>?_
 ·
  refine RT 2 E I ?_;exact⟨true,A,J',k,rfl,.y9 hb rfl (.inr (.inr ⟨x,hx,b9,by omega⟩)),I.sub⟩
 refine RN 1 E I λa E=>?_;obtain⟨i,px,ig,lx⟩:=YJ x hx;refine aV 0 (λw0 w'=>Rd w' wb 0 (cz p aq cO tq jq sq k)∧Rd w' b5 0 (ck x ad c)) [5] [0,1,2,4,3003,1005,1006,7,8,9,10,11] E I λa w E I hH=>?_;have hC:=hH.at w ⟨I.ai,I.ai⟩;refine RH 4 E I hH hC λa E=>?_;refine QH E (λw hc=>ae E (hc.1 4 _ rfl)) hC λa E=>?_;refine RH 0 E I hH hC λa E=>?_;refine SS E (ae E (hC.2 4 _ rfl)) λa E=>?_;refine RH 0 E I hH hC λa E=>?_;refine CL 0 E I (YF (I.store sq) ig lx hn) λa w E I=>?_;refine RN 5 E I λa E=>?_;refine RN 4 E I λa E=>?_;replace E:=E.aQ 59;refine aV 2 (λw0 w'=>Rd w' b3 0 [.int .i64 j.1,.int .i64 j.2]∧Rd w' b5 0 (ck x ad c)) [8,11,12,13,14,15,16,17] [0,1,2,3,4,6,7,9,10,3005,3008,1011,1012,1013,1014,1015,1016,1017,18,19,1020,21,22,1023] E I λa w E I hH=>?_;have hC:=hH.at w ⟨I.ai,I.ai⟩;refine RH 9 E I hH hC λa E=>?_;refine QH E (λw hc=>bT E rW rfl Ty.t245 (hc.1)) hC λa E=>?_;refine QH E (λw hc=>ae E (hc.2 3 _ rfl)) hC λa E=>?_;refine RH 0 E I hH hC λa E=>?_;refine ST 0 E I (λa w E I=>?_) (hlt:=(by simp[cz]));replace hC:=hH.at w ⟨I.ai,I.ai⟩;refine RH 2 E I hH hC λa E=>?_;refine rI E rfl I Ty.t245 (by simp[Value.oneCell']) (by simp[cz]) λa w E I=>?_;replace hC:=hH.at w ⟨I.ai,I.ai⟩;refine RH 2 E I hH hC λa E=>?_;refine ST 0 E I (λa w E I=>?_) (hlt:=(by simp[cz,cH]));replace hC:=hH.at w ⟨I.ai,I.ai⟩;refine RH 2 E I hH hC λa E=>?_;refine ST 0 E I (λa w E I=>?_) (hlt:=(by simp[cz,cH]));refine ST 2 E I (λa w E I=>?_) (hlt:=(by simp[cz,cH]));refine RN 0 E I λa E=>?_;change U W w (aa wb 247 (cz p aq cO tq jq sq ⟨true,j.1,j.2,A.last+1,x.done,false⟩)::_) at I;refine RT 2 E I ?_;exact⟨true,A.add px.g px.p,J',⟨true,j.1,j.2,A.last+1,x.done,false⟩,rfl,.FF hb rfl fm hx b9 (by omega) ig lx,I.sub⟩
theorem YK {ad:Option Addr}{c:Nat}(I:U W w (aa wb 247 (cz p aq cO tq jq sq k)::cj ad x.al.length c x.al::Tree tq sq T::ax sq r A::bJ jq J::aA W p aq cO::L))
   (hb:k.busy=true) (he:k.je=T.epoch) (hx:x∈T.l) (b9:(x.id:Int)=k.jb) (eI:k.mY=false) (hi:A.ar[i]?=some px) (zm:px.id=k.x) (hr:px.refs=1) (hg:dT px.g) (hd:k.done<x.al.length) (hf:0≤x.frm∧x.frm≤1099511627776)
   (a6:dp p) (aF:p.title.size≤1000000000) (kU:J.length≤16) :
   Calls prog 146 #[pt wb,.agg (ck x ad c).toArray] w λe w'=>∃ (A':Sn) (J':Js) (k':Wk),e=.returned (.tuple #[])∧lT p A T J k true A' T J' k' ∧
    U W w' (aa wb 247 (cz p aq cO tq jq sq k')::Tree tq sq T::ax sq r A'::bJ jq J'::aA W p aq cO::L):=by
 have ly:=Tree.wt (I.tree tq);have hA:=(ax.facts (I.store sq)).1;have B1:=(ly.ok x hx).1;have aG:=(a2.1 hi).1;have mZ:x.al.length≤65536:=B1.1;refine EN func146 ntmps146 rfl rfl λa E=>?_;refine BX 1 E I λb3 a w E I=>?_;change U W w (aa b3 238 (ck x ad c)::_) at I;refine bM 1 [7] [0,1,2,4,5,6,3003,1007,8,1009,10] E I λa w E I hH hC=>?_;refine RH 9 E I hH hC λa E=>?_;refine yB E rfl I rfl λeu a w E I ho=>?_;replace hC:=hC.trans ho;clear ho;change U W w (aa eu 307 [pt sq,.int .i64 k.x,.bool false]::_) at I;refine RH 1 E I hH hC λa E=>?_;refine RN 1 E I λa E=>?_;obtain⟨zs,hz,jz,I⟩:=cj.open (I.pick (cj ad x.al.length c x.al));obtain⟨bb,oo,rfl,da⟩:=I.drew.bU ad (by omega);have LY:zs.length=x.al.length:=by rw[← hz,a8]
 have LZ:zs[k.done]?=some (zs[k.done]'(by omega)):=aD (by omega);have L1:x.al[k.done]?=some (zs[k.done]'(by omega)).2.2:=by rw[← hz,bd,LZ];rfl
 have lS:=da k.done _ (by rw[bd,LZ];rfl);have F5:Rd w.drew wb 0 (cz p aq cO tq jq sq k):=I.drew.ai;have lV:Rd w.drew wb 0 (bR p aq cO):=F5.part 0 2;have L2:Rd w.drew b3 0 (ck x (some ⟨bb,oo,none⟩) c):=I.drew.ai;have YL:(zs[k.done]'(by omega)).2.2.length≤1099511627776:=B1.2 _ (bI L1);refine rT 0 (λw'=>Rd w' wb 0 (cz p aq cO tq jq sq k)∧Rd w' wb 0 (bR p aq cO)∧Rd w' b3 0 (ck x (some ⟨bb,oo,none⟩) c)∧w'.cell? ⟨bb,oo+k.done,none⟩=some (aK (zs[k.done]'(by omega)))) [5,7,11,12,14,18,19,20] [0,1,2,4,6,8,9,10,13,15,16,17,3003,3007,3011,3012,3014,3018,3019,3020,1005,1021] E I λa E=>?_;replace I:=I.drew;generalize w.drew=w at I lS F5 lV L2 ⊢;have hC:=And.intro F5 (And.intro lV (And.intro L2 lS));have hH:=Hd.any (λw'=>Rd w' wb 0 (cz p aq cO tq jq sq k)∧Rd w' wb 0 (bR p aq cO)∧Rd w' b3 0 (ck x (some ⟨bb,oo,none⟩) c)∧w'.cell? ⟨bb,oo+k.done,none⟩=some (aK (zs[k.done]'(by omega))));refine RH 12 E I hH hC λa E=>?_;refine QH E (λw hc=>bT E n2 rfl Ty.t45 (hc.2.1)) hC λa E=>?_;refine QH E (λw hc=>ae E (hc.2.2.1 1 _ rfl)) hC λa E=>?_;refine QH E (λw hc=>ae E (hc.1 9 _ rfl)) hC λa E=>?_;refine RH 1 E I hH hC λa E=>?_;refine QH E (λw hc=>ae E (hc.2.2.1 2 _ rfl)) hC λa E=>?_;refine QH E (λw hc=>ae E (hc.1 9 _ rfl)) hC λa E=>?_;refine RH 1 E I hH hC λa E=>?_;refine QH E (λw hc=>ae E (hc.2.2.2)) hC λa E=>?_;refine RH 1 E I hH hC λa E=>?_;have dB:U W w (ax sq r { A with ar:=A.ar.set i ⟨px.id,px.refs,px.g,px.p⟩ }::aa eu 307 [pt sq,.int .i64 k.x,.bool false]::aA W p aq cO::Sl 22 1 (some ⟨bb,oo,none⟩) x.al.length c (zs.map aK)::ah ba zs::aa wb 247 (cz p aq cO tq jq sq k)::aa b3 238 (ck x (some ⟨bb,oo,none⟩) c)::Tree tq sq T::bJ jq J::L):=by
  rw[show ({ A with ar:=A.ar.set i ⟨px.id,px.refs,px.g,px.p⟩ }:Sn)=A from by rw[← yZ hi]];exact I.sub
 rw[← zm]at dB;have u7:=Jw.close (i:=i) (A:=A) (px:=px) (g:=px.g) (bad:=false) (p':=px.p) (dB.sub (M:=aa eu 307 [pt sq,.int .i64 px.id,.bool false]::ax sq r { A with ar:=A.ar.set i ⟨px.id,px.refs,px.g,px.p⟩ }::aA W p aq cO::Sl 22 1 (some ⟨bb,oo,none⟩) x.al.length c (zs.map aK)::ah ba zs::aa wb 247 (cz p aq cO tq jq sq k)::aa b3 238 (ck x (some ⟨bb,oo,none⟩) c)::Tree tq sq T::bJ jq J::L)) hg (λh=>by cases h);refine j9 0 E I (LS (M:=YE (W:=W) (q:=sq) (r:=r) (bc:=eu) (A:=A) (px:=px) (i:=i) aG) u7 a6 aF YL (λw' h=>(U.mQ (h.sub (M:=Sl 22 1 (some ⟨bb,oo,none⟩) x.al.length c (zs.map aK)::ah ba zs::[]))).2 _ (jj _))) λnr BW tR a w E ⟨pa,I⟩=>?_;obtain⟨p2,⟨bD,YM⟩,I⟩:=Jw.open I;have xv:=(ax.facts (I.store sq)).1;refine RN 0 E I λa E=>?_;refine IF 6 E I (λak a E=>?_) λak a E=>?_
 ·
  refine CL 2 E I (zl (L:=Tree tq sq T::bJ jq J::aA W p aq cO::L) (I.sub (M:=aa wb 247 (cz p aq cO tq jq sq k)::ax sq r { A with ar:=A.ar.set i ⟨px.id,px.refs,nr,p2⟩ }::Tree tq sq T::bJ jq J::aA W p aq cO::L)) hb) λa w E I=>?_;refine RN 0 E I λa E=>?_;have xw:Rd w wb 6 [.int .i64 k.jb,.int .i64 k.je]:=(I.ai (b:=wb)).part 6 2;refine aV 1 (λw0 w'=>Rd w' wb 0 (cz p aq cO tq jq sq { k with busy:=false })∧Rd w' wb 6 [.int .i64 k.jb,.int .i64 k.je]) [7] [0,1,2,4,5,6,3003,1007,1008] E I λa w E I hH=>?_;replace xw:Rd w wb 6 [.int .i64 k.jb,.int .i64 k.je]:=(I.ai (b:=wb)).part 6 2;have hC:=hH.at w ⟨I.ai,xw⟩;refine RH 6 E I hH hC λa E=>?_;refine QH E (λw hc=>ae E (hc.1 3 _ rfl)) hC λa E=>?_;refine RH 0 E I hH hC λa E=>?_;refine SS E (bT E rW rfl Ty.t245 (hC.2)) λa E=>?_;refine RH 0 E I hH hC λa E=>?_;refine CL 0 E I (BL (I.vk jq) kU) λa w E I=>?_;change U W w (bJ jq (mo J k.jb k.je)::_) at I;refine RT 0 E I ?_;refine⟨A.eB k.x,mo J k.jb k.je,{ k with busy:=false },rfl,.failed hb he hx b9 eI (YM ak),?_⟩;rw[← zm,YH hA xv hi hr] at *;exact I.sub
 refine ST 3 E I (λa w E I=>?_) (hlt:=(by simp[cz]));change U W w (aa wb 247 (cz p aq cO tq jq sq { k with mY:=true })::_) at I;refine RT 0 E I ?_;obtain⟨_,nY⟩:=pa ak;subst nY;exact⟨_,J,{ k with mY:=true },rfl,.mY (p':=p2) hb he hx b9 eI hi zm L1 bD,I.sub⟩
theorem YN {ad:Option Addr}{c:Nat}(I:U W w (aa wb 247 (cz p aq cO tq jq sq k)::Tree tq sq T::ax sq r A::bJ jq J::L))
   (hb:k.busy=true) (he:k.je=T.epoch) (hx:T.l[kk]?=some x) (b9:(x.id:Int)=k.jb) (eI:k.mY=true) (hi:A.ar[i]?=some px) (zm:px.id=k.x) (hd:k.done<x.al.length) (kU:J.length≤16) :
   Calls prog 147 #[pt wb,.agg (ck x ad c).toArray] w λe w'=>∃ (A':Sn) (T':Tr) (J':Js) (k':Wk),e=.returned (.tuple #[])∧lT p A T J k true A' T' J' k' ∧
    U W w' (aa wb 247 (cz p aq cO tq jq sq k')::Tree tq sq T'::ax sq r A'::bJ jq J'::L):=by
 have ly:=Tree.wt (I.tree tq);have eJ:=bI hx;have dR:=(a2.1 hx).1;have B1:=(ly.ok x eJ).1;have mZ:x.al.length≤65536:=B1.1;refine EN func147 ntmps147 rfl rfl λa E=>?_;refine BX 1 E I λb3 a w E I=>?_;change U W w (aa b3 238 (ck x ad c)::_) at I;refine aV 2 (λw0 w'=>Rd w' wb 0 (cz p aq cO tq jq sq k)∧Rd w' b3 0 (ck x ad c)) [5,9,10,14] [0,1,2,4,6,7,8,11,12,13,3003,3005,3009,3010,1014,1015] E I λa w E I hH=>?_;have hC:=hH.at w ⟨I.ai,I.ai⟩;refine RH 10 E I hH hC λa E=>?_;refine QH E (λw hc=>ae E (hc.1 2 _ rfl)) hC λa E=>?_;refine QH E (λw hc=>ae E (hc.2 0 _ rfl)) hC λa E=>?_;refine QH E (λw hc=>ae E (hc.1 9 _ rfl)) hC λa E=>?_;refine RH 1 E I hH hC λa E=>?_;refine SS E (ae E (hC.1 8 _ rfl)) λa E=>?_;refine RH 0 E I hH hC λa E=>?_;refine CL 0 E I (YG (kk:=kk) (d:=k.done+1) (L:=aa wb 247 (cz p aq cO tq jq sq k)::aa b3 238 (ck x ad c)::bJ jq J::L) (I.sub (M:=Tree tq sq T::ax sq r A::aa wb 247 (cz p aq cO tq jq sq k)::aa b3 238 (ck x ad c)::bJ jq J::L)) hx (by omega) hi zm) λa w E L3=>?_;refine RN 0 E (U.start _) λa E=>?_;refine TC 0 E (U.start _) (λak a E=>?_) λak a E=>?_
 ·
  have hlt:x.done<k.done+1:=by simpa using ak
  replace I:=(L3.resolve_right (λh=>by omega)).2;refine ST 3 E I (λa w E I=>?_) (hlt:=(by simp[cz]));change U W w (aa wb 247 (cz p aq cO tq jq sq { k with busy:=false })::_) at I;refine CL 2 E I (LX (k:={ k with busy:=false }) I rfl) λa w E I=>?_;refine RN 0 E I λa E=>?_;refine b6 (M:=λa w=>∃ (b4:Nat) (ad2:Option Addr) (c2:Nat),Fr a 55 [(0,pt wb),(4,pt b4),(5,.bool true)]∧U W w (aa b4 238 (ck { x with done:=k.done+1,snap:=k.x } ad2 c2)::aa wb 247 (cz p aq cO tq jq sq { k with busy:=false })::Tree tq sq (T.iT kk x (k.done+1) k.x)::ax sq r (A.eB x.snap)::bJ jq J::L)) ?_ ?_
  ·
   refine aV 0 (λw0 w'=>Rd w' wb 0 (cz p aq cO tq jq sq { k with busy:=false })∧Rd w' b3 0 (ck x ad c)) [5,10] [0,1,2,4,3003,3005,2006,7,8,9,1010,1011,12] E I λa w E I hH=>?_;have hC:=hH.at w ⟨I.ai,I.ai⟩;refine RH 4 E I hH hC λa E=>?_;refine QH E (λw hc=>ae E (hc.1 2 _ rfl)) hC λa E=>?_;refine QH E (λw hc=>ae E (hc.2 0 _ rfl)) hC λa E=>?_;refine RH 0 E I hH hC λa E=>?_;refine DN [(6,[7,8,9,1010,1011,12]),(10,[1006,7,8,9,1011,12])] (by kernel_rfl) rfl ⟨⟨_,rfl,?_⟩,⟨_,rfl,?_⟩,trivial⟩
   ·
    refine RH 0 E I hH hC λa E=>?_;refine aY 0 E I (y0 (x:={ x with done:=k.done+1,snap:=k.x }) (k:=kk) (I.tree tq) (by simp[Tr.iT,dR])) λad2 c2 a w E I=>?_;refine RN 3 E I λa E=>?_;refine e5 E rfl I Ty.t238 rfl λb4 a w E I ho=>?_;clear ho;replace hC:=hH.at w (And.intro I.ai I.ai);refine RH 0 E I hH hC λa E=>?_;refine SA 0 E I λa w E I=>?_;refine RN 1 E I λa E=>?_;exact⟨_,ad2,c2,E.ab [0,4,5],I.sub⟩
   refine RH 0 E I hH hC λa E=>?_;refine e5 E rfl I Ty.t238 rfl λb4 a w E I ho=>?_;clear ho;replace hC:=hH.at w (And.intro I.ai I.ai);refine RH 0 E I hH hC λa E=>?_;refine aY 0 E I (y0 (x:={ x with done:=k.done+1,snap:=k.x }) (k:=kk) (I.tree tq) (by simp[Tr.iT,dR])) λad2 c2 a w E I=>?_;refine SA 3 E I λa w E I=>?_;refine RN 1 E I λa E=>?_;exact⟨_,ad2,c2,E.ab [0,4,5],I.sub⟩
  clear E;(try clear I);rintro a w ⟨b4,ad2,c2,E,I⟩;refine RN 3 E I λa E=>?_;replace E:=E.ek 38;refine IF 7 E I (λao a E=>?_) λao a E=>?_
  ·
   replace ao:((k.done+1:Nat):Int)<((x.al.length:Nat):Int):=ao;refine aV 0 (λw0 w'=>Rd w' wb 0 (cz p aq cO tq jq sq { k with busy:=false })∧Rd w' wb 6 [.int .i64 k.jb,.int .i64 k.je]) [7] [0,1,2,4,5,6,3003,1007,1008] E I λa w E I hH=>?_;have xw:Rd w wb 6 [.int .i64 k.jb,.int .i64 k.je]:=(I.ai (b:=wb)).part 6 2;have hC:=hH.at w ⟨I.ai,xw⟩;refine RH 6 E I hH hC λa E=>?_;refine QH E (λw hc=>ae E (hc.1 3 _ rfl)) hC λa E=>?_;refine RH 0 E I hH hC λa E=>?_;refine SS E (bT E rW rfl Ty.t245 (hC.2)) λa E=>?_;refine RH 0 E I hH hC λa E=>?_;refine CL 0 E I (BL (I.vk jq) kU) λa w E I=>?_;change U W w (bJ jq (mo J k.jb k.je)::_) at I;refine RT 0 E I ?_;refine⟨_,_,if k.done+1<x.al.length then mo J k.jb k.je else J,{ k with busy:=false },rfl,.iT (x:=x) (kk:=kk) hb he hx b9 eI hlt (by omega),?_⟩;rw[aj (by omega)];exact I.sub
  replace ao:((x.al.length:Nat):Int)≤((k.done+1:Nat):Int):=ao;refine RT 0 E I ?_;refine⟨_,_,if k.done+1<x.al.length then mo J k.jb k.je else J,{ k with busy:=false },rfl,.iT (x:=x) (kk:=kk) hb he hx b9 eI hlt (by omega),?_⟩;rw[ag (by omega)];exact I.sub
 have hlt:k.done+1≤x.done:=by
  have:=of_decide_eq_false ak;omega
 replace I:=(L3.resolve_left (λh=>by omega)).2;refine CL 2 E I (zl (L:=aa b3 238 (ck x ad c)::Tree tq sq T::bJ jq J::L) (I.sub (M:=aa wb 247 (cz p aq cO tq jq sq k)::ax sq r A::aa b3 238 (ck x ad c)::Tree tq sq T::bJ jq J::L)) hb) λa w E I=>?_;refine RN 0 E I λa E=>?_;refine b6 (M:=λa w=>∃ (b4:Nat) (ad2:Option Addr) (c2:Nat),Fr a 55 [(0,pt wb),(4,pt b4),(5,.bool true)]∧U W w (aa b4 238 (ck x ad2 c2)::aa wb 247 (cz p aq cO tq jq sq { k with busy:=false })::Tree tq sq T::ax sq r (A.eB k.x)::bJ jq J::L)) ?_ ?_
 ·
  refine aV 0 (λw0 w'=>Rd w' wb 0 (cz p aq cO tq jq sq { k with busy:=false })∧Rd w' b3 0 (ck x ad c)) [5,10] [0,1,2,4,3003,3005,2006,7,8,9,1010,1011,12] E I λa w E I hH=>?_;have hC:=hH.at w ⟨I.ai,I.ai⟩;refine RH 4 E I hH hC λa E=>?_;refine QH E (λw hc=>ae E (hc.1 2 _ rfl)) hC λa E=>?_;refine QH E (λw hc=>ae E (hc.2 0 _ rfl)) hC λa E=>?_;refine RH 0 E I hH hC λa E=>?_;refine DN [(6,[7,8,9,1010,1011,12]),(10,[1006,7,8,9,1011,12])] (by kernel_rfl) rfl ⟨⟨_,rfl,?_⟩,⟨_,rfl,?_⟩,trivial⟩
  ·
   refine RH 0 E I hH hC λa E=>?_;refine aY 0 E I (y0 (x:=x) (k:=kk) (I.tree tq) hx) λad2 c2 a w E I=>?_;refine RN 3 E I λa E=>?_;refine e5 E rfl I Ty.t238 rfl λb4 a w E I ho=>?_;clear ho;replace hC:=hH.at w (And.intro I.ai I.ai);refine RH 0 E I hH hC λa E=>?_;refine SA 0 E I λa w E I=>?_;refine RN 1 E I λa E=>?_;exact⟨_,ad2,c2,E.ab [0,4,5],I.sub⟩
  refine RH 0 E I hH hC λa E=>?_;refine e5 E rfl I Ty.t238 rfl λb4 a w E I ho=>?_;clear ho;replace hC:=hH.at w (And.intro I.ai I.ai);refine RH 0 E I hH hC λa E=>?_;refine aY 0 E I (y0 (x:=x) (k:=kk) (I.tree tq) hx) λad2 c2 a w E I=>?_;refine SA 3 E I λa w E I=>?_;refine RN 1 E I λa E=>?_;exact⟨_,ad2,c2,E.ab [0,4,5],I.sub⟩
 clear E;(try clear I);rintro a w ⟨b4,ad2,c2,E,I⟩;refine RN 3 E I λa E=>?_;replace E:=E.ek 38;refine IF 7 E I (λao a E=>?_) λao a E=>?_
 ·
  refine aV 0 (λw0 w'=>Rd w' wb 0 (cz p aq cO tq jq sq { k with busy:=false })∧Rd w' wb 6 [.int .i64 k.jb,.int .i64 k.je]) [7] [0,1,2,4,5,6,3003,1007,1008] E I λa w E I hH=>?_;have xw:Rd w wb 6 [.int .i64 k.jb,.int .i64 k.je]:=(I.ai (b:=wb)).part 6 2;have hC:=hH.at w ⟨I.ai,xw⟩;refine RH 6 E I hH hC λa E=>?_;refine QH E (λw hc=>ae E (hc.1 3 _ rfl)) hC λa E=>?_;refine RH 0 E I hH hC λa E=>?_;refine SS E (bT E rW rfl Ty.t245 (hC.2)) λa E=>?_;refine RH 0 E I hH hC λa E=>?_;refine CL 0 E I (BL (I.vk jq) kU) λa w E I=>?_;change U W w (bJ jq (mo J k.jb k.je)::_) at I;refine RT 0 E I ?_;refine⟨_,_,if x.done<x.al.length then mo J k.jb k.je else J,{ k with busy:=false },rfl,.lost (x:=x) hb he eJ b9 eI hlt,?_⟩;rw[aj (by omega)];exact I.sub
 refine RT 0 E I ?_;refine⟨_,_,if x.done<x.al.length then mo J k.jb k.je else J,{ k with busy:=false },rfl,.lost (x:=x) hb he eJ b9 eI hlt,?_⟩;rw[ag (by omega)];exact I.sub
structure L5 (p:Pr)(A:Sn)(T:Tr)(J:Js)(k:Wk):Prop where
 pr:dp p
 sz:p.title.size≤1000000000
 frm:∀ y∈T.l,0≤y.frm∧y.frm≤1099511627776
 gE:∀ x∈T.l,∃ (i:Nat) (px:aC),A.ar[i]?=some px∧px.id=x.snap
 YO:k.busy=true→(∃ (i:Nat) (px:aC),A.ar[i]?=some px∧px.id=k.x∧px.refs=1∧dT px.g)∧∀ y∈T.l,(y.id:Int)=k.jb→k.done<y.al.length
 n:A.n+1<1099511627776
 len:J.length≤16
theorem Inv.ready {F:Int}{g0:Nat→Int}{t:Nat→Nat}{base:Nat}{ws:List Wk}(h:Inv p F g0 t base A T ws)(hk:k∈ws)(hF:0≤F∧F≤1099511627776)(hp:dp p)(hz:p.title.size≤1000000000)(hn:A.n+1<1099511627776)(kU:J.length≤16):L5 p A T J k :=
 ⟨hp,hz,λy hy=>by rw[(h.gn y hy).1];exact hF,λx hx=>h.LD hx,λhb=>⟨by
  obtain⟨i,px,h1,h2⟩:=h.XM hk hb;have h3:=h.ar px (bI h1);exact⟨i,px,h1,h2,h3.1,h3.2⟩,λy hy he=>((h.lU k hk).2 hb y hy he).1⟩,hn,kU⟩
theorem YP (I:U W w (aa wb 247 (cz p aq cO tq jq sq k)::Tree tq sq T::ax sq r A::bJ jq J::aA W p aq cO::L))(hr:L5 p A T J k) :
   Calls prog 102 #[pt wb] w λe w'=>∃ (z:Bool) (A':Sn) (T':Tr) (J':Js) (k':Wk),e=.returned (.bool z)∧lT p A T J k z A' T' J' k' ∧
    U W w' (aa wb 247 (cz p aq cO tq jq sq k')::Tree tq sq T'::ax sq r A'::bJ jq J'::aA W p aq cO::L):=by
 refine EN func102 ntmps102 rfl rfl λa E=>?_;refine RN 6 E I λa E=>?_;replace E:=E.aQ 6;refine IF 8 E I (λao a E=>?_) λao a E=>?_
 ·
  refine ka 2 E I (YI (p:=p) I ao hr.gE hr.n) ?_;clear E I;rintro e w ⟨z,A',J',k',rfl,vp,I⟩;refine⟨_,rfl,λa E=>?_⟩;refine RT 1 E I ?_;exact⟨z,A',T,J',k',rfl,vp,I⟩
 obtain⟨⟨i,px,ig,lx,a6,tS⟩,dc⟩:=hr.YO ao;refine RN 0 E I λa E=>?_;refine b6 (M:=λa w=>∃ (b3:Nat) (x:Br) (ad:Option Addr) (c:Nat) (ok:Bool),((ok=true∧x∈T.l∧(x.id:Int)=k.jb)∨(ok=false∧∀ y∈T.l,(y.id:Int)≠k.jb))∧Fr a 57 [(0,pt wb),(3,pt b3),(4,.bool ok)]∧U W w (aa b3 238 (ck x ad c)::cj ad x.al.length c x.al::aa wb 247 (cz p aq cO tq jq sq k)::Tree tq sq T::ax sq r A::bJ jq J::aA W p aq cO::L)) ?_ ?_
 ·
  refine aV 0 (λw0 w'=>Rd w' wb 0 (cz p aq cO tq jq sq k)) [8,13] [0,1,2,4,5,6,7,3003,3008,2009,10,11,12,1013,1014,15] E I λa w E I hH=>?_;have hC:=hH.at w I.ai;refine RH 7 E I hH hC λa E=>?_;refine QH E (λw hc=>ae E (hc 2 _ rfl)) hC λa E=>?_;refine QH E (λw hc=>ae E (hc 6 _ rfl)) hC λa E=>?_;refine RH 0 E I hH hC λa E=>?_;refine DN [(9,[10,11,12,1013,1014,15]),(13,[1009,10,11,12,1014,15])] (by kernel_rfl) rfl ⟨⟨_,rfl,?_⟩,⟨_,rfl,?_⟩,trivial⟩
  ·
   refine RH 0 E I hH hC λa E=>?_;refine ka 0 E I (B0 (id:=k.jb) (I.tree tq)) ?_;clear E I;rintro e w ⟨x,ad,c,ok,rfl,ds,I⟩;refine⟨_,rfl,λa E=>?_⟩;refine RN 3 E I λa E=>?_;refine e5 E rfl I Ty.t238 rfl λb3 a w E I ho=>?_;clear ho;replace hC:=hH.at w I.ai;refine RH 0 E I hH hC λa E=>?_;refine SA 0 E I λa w E I=>?_;refine RN 1 E I λa E=>?_;exact⟨_,x,ad,c,ok,ds,E.ab [0,3,4],I.sub⟩
  refine RH 0 E I hH hC λa E=>?_;refine e5 E rfl I Ty.t238 rfl λb3 a w E I ho=>?_;clear ho;replace hC:=hH.at w I.ai;refine RH 0 E I hH hC λa E=>?_;refine ka 0 E I (B0 (id:=k.jb) (I.tree tq)) ?_;clear E I;rintro e w ⟨x,ad,c,ok,rfl,ds,I⟩;refine⟨_,rfl,λa E=>?_⟩;refine SA 3 E I λa w E I=>?_;refine RN 1 E I λa E=>?_;exact⟨_,x,ad,c,ok,ds,E.ab [0,3,4],I.sub⟩
 clear E;(try clear I);rintro a w ⟨b3,x,ad,c,ok,ds,E,I⟩;refine aV 2 (λw0 w'=>Rd w' wb 0 (cz p aq cO tq jq sq k)) [8,9] [0,1,2,3,5,6,7,3004,1008,1009,10,11,12,13,14,15] E I λa w E I hH=>?_;have hC:=hH.at w I.ai;refine RH 7 E I hH hC λa E=>?_;refine QH E (λw hc=>ae E (hc 7 _ rfl)) hC λa E=>?_;refine RH 0 E I hH hC λa E=>?_;refine SS E (ae E (hC 2 _ rfl)) λa E=>?_;refine RH 0 E I hH hC λa E=>?_;refine CL 0 E I (BF (I.tree tq)) λa w E I=>?_;replace hC:=hH.at w I.ai;refine RH 2 E I hH hC λa E=>?_;refine E.by (s:=42) (λlq E=>?_) (λlq E=>?_)
 ·
  refine RH 4 E I hH hC λa E=>?_;refine CL 2 E I (zl (L:=Tree tq sq T::bJ jq J::aA W p aq cO::L) (I.sub (M:=aa wb 247 (cz p aq cO tq jq sq k)::ax sq r A::Tree tq sq T::bJ jq J::aA W p aq cO::L)) ao) λa w E I=>?_;refine RT 2 E I ?_;exact⟨true,A.eB k.x,T,J,{ k with busy:=false },rfl,.gone ao (.inl lq),I.sub⟩
 refine RH 4 E I hH hC λa E=>?_;refine IF 0 E I (λay a E=>?_) λay a E=>?_
 ·
  have bX:∀ y∈T.l,(y.id:Int)≠k.jb:=by
   rcases ds with ⟨h,_⟩ | ⟨_,h⟩
   ·rw[h]at ay;cases ay
   ·exact h
  refine CL 1 E I (zl (L:=Tree tq sq T::bJ jq J::aA W p aq cO::L) (I.sub (M:=aa wb 247 (cz p aq cO tq jq sq k)::ax sq r A::Tree tq sq T::bJ jq J::aA W p aq cO::L)) ao) λa w E I=>?_;refine RT 2 E I ?_;exact⟨true,A.eB k.x,T,J,{ k with busy:=false },rfl,.gone ao (.inr bX),I.sub⟩
 obtain⟨hx,b9⟩:x∈T.l∧(x.id:Int)=k.jb:=by
  rcases ds with ⟨_,h⟩ | ⟨h,_⟩
  ·exact h
  ·rw[h]at ay;cases ay
 refine IF 7 E I (λbl a E=>?_) λbl a E=>?_
 ·
  refine j9 2 E I (YK (I.sub (M:=aa wb 247 (cz p aq cO tq jq sq k)::cj ad x.al.length c x.al::Tree tq sq T::ax sq r A::bJ jq J::aA W p aq cO::L)) ao lq hx b9 bl ig lx a6 tS (dc x hx b9) (hr.frm x hx) hr.pr hr.sz hr.len) λA' J' k' a w E ⟨vp,I⟩=>?_;refine RT 2 E I ?_;exact⟨true,A',T,J',k',rfl,vp,I⟩
 obtain⟨kk,kc⟩:=ke.1 hx;refine ka 2 E I (YN (p:=p) (L:=aA W p aq cO::L) (I.sub (M:=aa wb 247 (cz p aq cO tq jq sq k)::Tree tq sq T::ax sq r A::bJ jq J::aA W p aq cO::L)) ao lq kc b9 bl ig lx (dc x hx b9) hr.len) ?_;clear E I;rintro e w ⟨A',T',J',k',rfl,vp,I⟩;refine⟨_,rfl,λa E=>?_⟩;refine RT 2 E I ?_;exact⟨true,A',T',J',k',rfl,vp,I⟩
end
end
section
theorem F6 {s:ByteArray}{j:Nat}(h:j<s.size):s.get! j=s[j]'h:=by
 have h2:j<s.data.size:=h;show s.data[j]! = s.data[j];rw[getElem!_pos s.data j h2]
theorem L6 {s:ByteArray}{j:Nat}(h:s.size≤j):s.get! j=0:=by
 have h2:¬ j<s.data.size:=Nat.not_lt.2 h;show s.data[j]! = 0;rw[getElem!_neg s.data j h2];rfl
theorem sm (s:ByteArray)(p:Nat):(s.extract p s.size).size=s.size-p:=by simp[ByteArray.size_extract]
theorem YQ (s:ByteArray)(p k:Nat):(s.extract p s.size).get! k=s.get! (p+k):=by
 by_cases h:p+k<s.size
 ·have h2:k<(s.extract p s.size).size:=by rw[sm];omega
  rw[F6 h2,F6 h,ByteArray.getElem_extract]
 ·rw[L6 (by rw[sm];omega),L6 (by omega)]
theorem YR (s:ByteArray)(p:Nat):Utf8.decode (s.extract p s.size) 0=Utf8.decode s p:=by
 have hc:∀ k,decide (k<s.size-p)=decide (p+k<s.size):=λk=>by
  by_cases h:p+k<s.size
  ·rw[dr h,dr (by omega)]
  ·rw[bu h,bu (by omega)]
 simp only[Utf8.decode,YQ,sm,hc,ei,Nat.add_assoc]
theorem F7 (s:ByteArray)(p n:Nat):(s.extract p s.size).extract n (s.extract p s.size).size=s.extract (p+n) s.size:=by
 rw[sm,ByteArray.extract_extract]
 congr 1
 omega
def F8 (b n low r:Nat):Prop:=(b=192+r∧r<32∧n=2∧low=128)∨(b=224+r∧r<16∧n=3∧low=2048)∨(b=240+r∧r<8∧n=4∧low=65536)
def ko (s:ByteArray)(j:Nat):Nat:=(s.get! j).toNat
def gp (s:ByteArray)(r:Nat):Nat→Nat
 | 0=>r
 | j+1=>gp s r j*64+ko s (j+1)%64
theorem F9 (s:ByteArray)(j:Nat):ko s j<256:=(s.get! j).toNat_lt
theorem Ga {s:ByteArray}{r:Nat}(h:r<32):∀ j,gp s r j<32*64 ^ j
 | 0=>by simpa [gp] using h
 | j+1=>by
  have:=Ga (s:=s) h j;rw[gp,Nat.pow_succ];omega
def B2 (low r:Nat):Prop:=r<low∨1114111<r∨(55296≤r∧r<57344)
section
variable {s:ByteArray}{b n low r:Nat}
theorem YS (hb:ko s 0=b)(h:b<128):Utf8.decode s 0=(b,1):=by
 simp only[ko]at hb;simp[Utf8.decode,hb,h]
theorem tT (hb:ko s 0=b)(h1:128≤b)(h2:b<192∨248≤b):Utf8.decode s 0=(0xFFFD,1):=by
 have:=F9 s 0;simp only[ko]at hb this;have e1:¬ b<128:=by omega
 have e2:(b/32==6)=false:=by rw[mj];omega
 have e3:(b/16==14)=false:=by rw[mj];omega
 have ia:(b/8==30)=false:=by rw[mj];omega
 simp[Utf8.decode,hb,e1,e2,e3,ia,Utf8.runeError]
theorem Gb (hb:ko s 0=b)(hd:F8 b n low r)(h:s.size<n∨∃ k,1≤k∧k<n∧ko s k/64≠2):Utf8.decode s 0=(0xFFFD,1):=by
 have hc:∃ k,1≤k∧k<n∧(decide (k<s.size)&&ko s k/64==2)=false:=by
  rcases h with h | ⟨k,h1,h2,h3⟩
  ·rcases k8 s.size with h0 | h0
   ·exact⟨1,by omega,by rcases hd with h | h | h <;> omega,by rw[bu (by omega),Bool.false_and]⟩
   ·exact⟨s.size,by omega,h,by rw[bu (by omega),Bool.false_and]⟩
  ·exact⟨k,h1,h2,by rw[mj.2 h3,Bool.and_false]⟩
 obtain⟨k,h1,h2,h3⟩:=hc;simp only[ko]at hb h3;rcases hd with ⟨rfl,h4,rfl,rfl⟩ | ⟨rfl,h4,rfl,rfl⟩ | ⟨rfl,h4,rfl,rfl⟩
 ·have e1:¬ 192+r<128:=by omega
  have e2:((192+r)/32==6)=true:=by rw[beq_iff_eq];omega
  have e3:((192+r)/16==14)=false:=by rw[mj];omega
  have ia:((192+r)/8==30)=false:=by rw[mj];omega
  obtain rfl:k=1:=by omega
  simp only[Utf8.decode,ei,hb,e1,e2,e3,ia,h3,Utf8.runeError];simp
 ·have e1:¬ 224+r<128:=by omega
  have e2:((224+r)/32==6)=false:=by rw[mj];omega
  have e3:((224+r)/16==14)=true:=by rw[beq_iff_eq];omega
  have ia:((224+r)/8==30)=false:=by rw[mj];omega
  have hk:k=1∨k=2:=by omega
  rcases hk with rfl | rfl
  all_goals
   simp only[Utf8.decode,ei,hb,e1,e2,e3,ia,h3,Utf8.runeError];simp
 ·have e1:¬ 240+r<128:=by omega
  have e2:((240+r)/32==6)=false:=by rw[mj];omega
  have e3:((240+r)/16==14)=false:=by rw[mj];omega
  have ia:((240+r)/8==30)=true:=by rw[beq_iff_eq];omega
  have hk:k=1∨k=2∨k=3:=by omega
  rcases hk with rfl | rfl | rfl
  all_goals
   simp only[Utf8.decode,ei,hb,e1,e2,e3,ia,h3,Utf8.runeError];simp
theorem YT (hb:ko s 0=b)(hd:F8 b n low r)(I:n≤s.size)(h:∀ k,1≤k→k<n→ko s k/64=2) :
   (B2 low (gp s r (n-1))→Utf8.decode s 0=(0xFFFD,1))∧(¬ B2 low (gp s r (n-1))→Utf8.decode s 0=(gp s r (n-1),n)):=by
 simp only[B2];have hc:∀ k,1≤k→k<n→(decide (k<s.size)&&(s.get! k).toNat/64==2)=true:=λk h1 h2=>by
  rw[dr (by omega),Bool.true_and,beq_iff_eq];exact h k h1 h2
 have hlt:=Ga (s:=s) (r:=r) (by rcases hd with h | h | h <;> omega) (n-1);simp only[ko]at hb;rcases hd with ⟨rfl,h4,rfl,rfl⟩ | ⟨rfl,h4,rfl,rfl⟩ | ⟨rfl,h4,rfl,rfl⟩
 ·have e1:¬ 192+r<128:=by omega
  have e2:((192+r)/32==6)=true:=by rw[beq_iff_eq];omega
  have tU:gp s r (2-1)=(192+r)%32*64+(s.get! 1).toNat%64:=by
   show r*64+(s.get! 1).toNat%64=_;omega
  have kQ:Utf8.decode s 0=if 128≤gp s r (2-1) then (gp s r (2-1),2) else (0xFFFD,1):=by
   rw[tU];simp only[Utf8.decode,ei,hb,e1,e2,hc 1 (by omega) (by omega),Utf8.runeError];simp
  have agy:gp s r (2-1)<2048:=hlt;refine⟨λkh=>?_,λhg=>?_⟩
  ·rw[kQ,ag (by omega)]
  ·rw[kQ,aj (by omega)]
 ·have e1:¬ 224+r<128:=by omega
  have e2:((224+r)/32==6)=false:=by rw[mj];omega
  have e3:((224+r)/16==14)=true:=by rw[beq_iff_eq];omega
  have tU:gp s r (3-1)=(224+r)%16*4096+(s.get! 1).toNat%64*64+(s.get! 2).toNat%64:=by
   show (r*64+(s.get! 1).toNat%64)*64+(s.get! 2).toNat%64=_;omega
  have kQ:Utf8.decode s 0=if 2048≤gp s r (3-1)∧Utf8.valid (gp s r (3-1))=true then (gp s r (3-1),3) else (0xFFFD,1):=by
   rw[tU];simp only[Utf8.decode,ei,hb,e1,e2,e3,hc 1 (by omega) (by omega),hc 2 (by omega) (by omega),Utf8.runeError];simp
  have hv:Utf8.valid (gp s r (3-1))=true↔(gp s r (3-1)<55296∨(57344≤gp s r (3-1)∧gp s r (3-1)≤1114111)):=by
   simp only[Utf8.valid,Bool.or_eq_true,fK,qK];omega
  refine⟨λkh=>?_,λhg=>?_⟩
  ·rw[kQ,ag (by rw[hv];omega)]
  ·rw[kQ,aj (by rw[hv];omega)]
 ·have e1:¬ 240+r<128:=by omega
  have e2:((240+r)/32==6)=false:=by rw[mj];omega
  have e3:((240+r)/16==14)=false:=by rw[mj];omega
  have ia:((240+r)/8==30)=true:=by rw[beq_iff_eq];omega
  have tU:gp s r (4-1)=(240+r)%8*262144+(s.get! 1).toNat%64*4096+(s.get! 2).toNat%64*64+(s.get! 3).toNat%64:=by
   show ((r*64+(s.get! 1).toNat%64)*64+(s.get! 2).toNat%64)*64+(s.get! 3).toNat%64=_;omega
  have kQ:Utf8.decode s 0=if 65536≤gp s r (4-1)∧Utf8.valid (gp s r (4-1))=true then (gp s r (4-1),4) else (0xFFFD,1):=by
   rw[tU];simp only[Utf8.decode,ei,hb,e1,e2,e3,ia,hc 1 (by omega) (by omega),hc 2 (by omega) (by omega),hc 3 (by omega) (by omega),Utf8.runeError];simp
  have hv:Utf8.valid (gp s r (4-1))=true↔(gp s r (4-1)<55296∨(57344≤gp s r (4-1)∧gp s r (4-1)≤1114111)):=by
   simp only[Utf8.valid,Bool.or_eq_true,fK,qK];omega
  refine⟨λkh=>?_,λhg=>?_⟩
  ·rw[kQ,ag (by rw[hv];omega)]
  ·rw[kQ,aj (by rw[hv];omega)]
end
def B3 (x:Nat×Nat):Bool:=if x.1≠65533 then true else decide (x.2=3)
theorem YU (s:ByteArray)(i:Nat):B3 (Utf8.decode s i)=mW (Utf8.decode s i):=by
 rcases Lm s i with h | h
 ·unfold B3 mW;by_cases h1:(Utf8.decode s i).1=65533
  ·rw[h1]at h;have h2:(Utf8.decode s i).2=3:=by rw[← h];rfl
   rw[ag (λh3=>h3 h1),h2];have:Utf8.decode s i≠(65533,1):=λe=>by rw[e]at h2;cases h2
   simp[this]
  ·rw[aj h1];have:Utf8.decode s i≠(65533,1):=λe=>h1 (by rw[e]);simp[this]
 ·rw[h];rfl
def xx (c:Int):Nat:=[0,2,2,3,3,3,3,3,3,1,2,2,2,2,2,1].getD c.toNat 0
def B4 (o:gO)(k:Nat):Int:=if k=0 then o.a else if k=1 then o.b else o.c
def kq (n:Int)(o:gO)(k:Nat):Int:=if xx o.code≤k then 0 else if o.code=9∨(o.code=10∧k=1) then n else 31
def so (n:Int)(o:gO)(k:Nat):Prop:=(k<xx o.code∧o.code=1∧k=1)∨(0≤B4 o k∧B4 o k≤kq n o k)
theorem zn {n:Int}{o:gO}:e9 n o↔(0≤o.code∧o.code≤15)∧so n o 0∧so n o 1∧so n o 2:=by
 obtain⟨code,a,b,c⟩:=o;simp only[e9,so,B4,kq,e8];by_cases h:0≤code∧code≤15
 ·have h2:∃ m:Nat,code=m∧m≤15:=⟨code.toNat,by omega,by omega⟩;obtain⟨m,rfl,hm⟩:=h2;have:m=0∨m=1∨m=2∨m=3∨m=4∨m=5∨m=6∨m=7∨m=8∨m=9∨m=10∨m=11∨m=12∨m=13∨m=14∨m=15:=by omega
  rcases this with rfl | rfl | rfl | rfl | rfl | rfl | rfl | rfl | rfl | rfl | rfl | rfl | rfl | rfl | rfl | rfl <;> simp[xx] <;> omega
 ·constructor
  ·intro h3;omega
  ·intro h3;exact absurd h3.1 h
end
end Go.Proofs.YteoldcfapaiobaaGreat
