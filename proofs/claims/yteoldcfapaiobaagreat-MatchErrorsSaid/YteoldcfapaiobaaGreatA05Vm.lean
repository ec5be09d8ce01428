/- The walks of packages word and vm, over whatever memory keeps the cells. -/
import Derived.Test.YteoldcfapaiobaaGreatA04Job
import Derived.Test.YteoldcfapaiobaaGreatA01Row
import Derived.Test.YteoldcfapaiobaaGreatA03Snap2
namespace Go.Proofs.YteoldcfapaiobaaGreat
open Tryz
open List (mem_cons_self getElem?_append_right mem_range eraseIdx_set_eq append_nil getElem_mem set_set range_succ countP_congr)
open Go.RowKit
set_option linter.unusedVariables false
set_option linter.unusedSimpArgs false
set_option maxRecDepth 10000
set_option synthInstance.maxSize 4000
set_option synthInstance.maxHeartbeats 400000
section
section
variable {W w:World}{L:List SP}
theorem IJ {x:Int}(I:V W w L)(hx:dp x):Calls prog 229 #[.int .i32 x,.int .i64 32] w λe w'=>e=.returned (.int .i64 (ke x))∧V W w' L:=by
 have h1:=Int.tmod_lt_of_pos x (b:=32) (by decide);have h2:=Int.lt_tmod_of_pos x (b:=32) (by decide);have hm:(ke x:Int)=x%32:=by
  have h1:=Int.emod_nonneg x (show (32:Int)≠0 by decide);show (((x%32).toNat:Nat):Int)=_;omega
 have ht:x.tmod 32=if 0≤x then x%32 else -((-x)%32):=by
  split
  ·exact Int.tmod_eq_emod_of_nonneg (by omega)
  ·rw[← Int.neg_neg (x.tmod 32),← Int.neg_tmod,Int.tmod_eq_emod_of_nonneg (by omega)]
 simp only[dp]at hx;refine EN func229 ntmps229 rfl rfl λa E=>?_;refine RN 6 E I λa E=>?_;replace E:=E.aN 7;refine SX 3 E I (by rw[gr (by omega) (by omega)]) λa E=>?_;refine IF 7 E I (λan a E=>?_) λan a E=>?_
 ·
  refine RN 4 E I λa E=>?_;rw[show x.tmod 32+32=(ke x:Int) from by rw[hm,ht];split <;> omega]at E;refine RT 3 E I ?_;exact⟨rfl,I⟩
 refine RT 3 E I ?_;exact⟨by rw[hm,show x.tmod 32=x%32 from by rw[ht] at *;split at*<;> omega],I⟩
theorem UQ {x y:Int}(I:V W w L):Calls prog 244 #[.int .i32 x,.int .i32 y] w λe w'=>e=.returned (.int .i32 (hV (x+y)))∧V W w' L:=by
 refine EN func244 ntmps244 rfl rfl λa E=>?_;refine RT 7 E I ?_;exact⟨rfl,I⟩
theorem UR {x y:Int}(I:V W w L):Calls prog 245 #[.int .i32 x,.int .i32 y] w λe w'=>e=.returned (.int .i32 (hV (x-y)))∧V W w' L:=by
 refine EN func245 ntmps245 rfl rfl λa E=>?_;refine RT 7 E I ?_;exact⟨rfl,I⟩
theorem US {x y:Int}(I:V W w L):Calls prog 246 #[.int .i32 x,.int .i32 y] w λe w'=>e=.returned (.int .i32 (hV (x*y)))∧V W w' L:=by
 refine EN func246 ntmps246 rfl rfl λa E=>?_;refine RT 7 E I ?_;exact⟨rfl,I⟩
theorem UT {x y:Int}(I:V W w L):Calls prog 247 #[.int .i32 x,.int .i32 y] w λe w'=>e=.returned (.int .i32 (if y=0 then 0 else hV (x.tdiv y)))∧V W w' L:=by
 refine EN func247 ntmps247 rfl rfl λa E=>?_;refine IF 8 E I (λaj a E=>?_) λaj a E=>?_
 ·
  refine RT 2 E I ?_;exact⟨by rw[al (by omega)],I⟩
 refine IF 3 E I (λan a E=>?_) λan a E=>?_
 ·
  refine RT 4 E I ?_;exact⟨by rw[ae (by omega),show y = -1 from by omega,Int.tdiv_neg,Int.tdiv_one,show (0:Int)-x = -x from by omega];rfl,I⟩
 refine RN 3 E I λa E=>?_;refine SS E (Hj E (by omega)) λa E=>?_;refine RT 1 E I ?_;exact⟨by rw[ae (by omega)];rfl,I⟩
theorem IK {z:Bool}(I:V W w L):Calls prog 248 #[.bool z] w λe w'=>e=.returned (.int .i32 (if z=true then 1 else 0))∧V W w' L:=by
 refine EN func248 ntmps248 rfl rfl λa E=>?_;refine IF 5 E I (λaj a E=>?_) λaj a E=>?_
 ·
  refine RT 2 E I ?_;exact⟨by rw[al aj],I⟩
 refine RT 2 E I ?_;exact⟨by rw[ae (by rw[aj];decide)],I⟩
theorem UU {k x y:Int}(I:V W w L):Calls prog 242 #[.int .i64 k,.int .i32 x,.int .i32 y] w λe w'=>e=.returned (.int .i32 (iL k x y))∧V W w' L:=by
 refine EN func242 ntmps242 rfl rfl λa E=>?_;refine IF 8 E I (λaj a E=>?_) λaj a E=>?_
 ·
  refine CL 3 E I (UQ I) λa w E I=>?_;refine RT 1 E I ?_;exact⟨by simp[iL,aj],I⟩
 refine IF 3 E I (λan a E=>?_) λan a E=>?_
 ·
  refine CL 3 E I (UR I) λa w E I=>?_;refine RT 1 E I ?_;exact⟨by simp[iL,an],I⟩
 refine IF 3 E I (λay a E=>?_) λay a E=>?_
 ·
  refine CL 3 E I (US I) λa w E I=>?_;refine RT 1 E I ?_;exact⟨by simp[iL,ay],I⟩
 refine IF 3 E I (λbg a E=>?_) λbg a E=>?_
 ·
  refine CL 3 E I (UT I) λa w E I=>?_;refine RT 1 E I ?_;exact⟨by simp[iL,bg],I⟩
 refine IF 3 E I (λbM a E=>?_) λbM a E=>?_
 ·
  refine CL 4 E I (IK I) λa w E I=>?_;refine RT 1 E I ?_;exact⟨by simp[iL,bM],I⟩
 refine CL 4 E I (IK I) λa w E I=>?_;refine RT 1 E I ?_;exact⟨by simp[iL,aj,an,ay,bg,bM],I⟩
theorem UW {s:ByteArray}{n:Int}(I:V W w L)(aE:s.size≤1099511627776)(hn:dp n):Calls prog 241 #[.string s,.int .i64 n] w λe w'=>e=.returned (.int .i32 (mG s n))∧V W w' L:=by
 simp only[dp]at hn;refine EN func241 ntmps241 rfl rfl λa E=>?_;refine RN 5 E I λa E=>?_;refine BQ E rfl I underlying9 rfl λb8 a w E I ho=>?_;clear ho;refine RN 0 E I λa E=>?_;refine aS (λμ a w=>∃ (pos:Nat) (dn:List (Nat×Nat)),(μ=s.size-pos∧pos≤s.size∧eb s 0=dn++eb s pos∧dn.length≤pos∧(n<0∨(dn.length:Int)≤n))∧Fr a 17 [(0,.string s),(1,.int .i64 (n-dn.length)),(8,pt b8)]∧V W w (km b8 (.stringIter s pos)::L)) (s.size) (⟨0,[],⟨by simp,by simp,by simp,by simp,by simp;omega⟩,by rw[show n-(([]:List (Nat×Nat)).length:Int)=n from by simp];exact E.ab [0,1,8],I⟩) ?_;clear E I;rintro μ a w ⟨pos,dn,⟨rfl,pK,da,l5,qK⟩,E,I⟩;refine RN 1 E I λa E=>?_;refine BS E rfl I rfl λa w E I=>?_;refine RN 0 E I λa E=>?_;refine SS E (nF E (BN s pos)) λa E=>?_;refine IF 1 E I (λaj a E=>?_) λaj a E=>?_
 ·
  have mI:=qE aj;have iY:=Cu pK;have oV:dZ s pos=pos+(Utf8.decode s pos).2:=by rw[dZ,al aj]
  have kY:=tu s pos;refine RN 1 E I λa E=>?_;refine SS E (nF E (BO aj)) λa E=>?_;refine IF 5 E I (λan a E=>?_) λan a E=>?_
  ·
   refine RT 3 E I ?_;refine⟨?_,I.sub⟩;have oY:n.toNat=dn.length:=by omega
   rw[mG,al (by omega),da,mI,oY,getElem?_append_right (bh _),Nat.sub_self];rfl
  refine RN 3 E I λa E=>?_;exact⟨s.size-dZ s pos,by omega,dZ s pos,dn++[Utf8.decode s pos],⟨rfl,iY,by rw[da,mI,dw];rfl,by rw[aK];simp;omega,by rw[aK];simp;omega⟩,by rw[show n-((dn++[Utf8.decode s pos]).length:Int)=n-(dn.length:Int)-1 from by rw[aK];simp;omega];exact E.ab [0,1,8],I.sub⟩
 refine RT 2 E I ?_;refine⟨?_,I.sub⟩;have gA:=qF (s:=s) (pos:=pos) aj;rw[gA,append_nil]at da;rw[mG];split
 ·rw[da,iP (by omega)];rfl
 ·rfl
structure xh (W:World)(t:TypeId)(ad:Addr)(tB fs:FuncId)(J:(Nat→Int)→Bool→SP):Prop where
 nV : oL prog t "Get" tB
 nW:g5 prog tB=true
 zm : oL prog t "Set" fs
 u1:g5 prog fs=true
 ok:∀ (w:World) (L:List SP) (g:Nat→Int) (bad:Bool),V W w (J g bad::L)→dP g
 get:∀ (w:World) (L:List SP) (g:Nat→Int) (bad:Bool) (c:Nat),c<32→V W w (J g bad::L)→Calls prog tB (List.toArray [.pointer (some ad),.int .i64 c]) w λe w'=>e=.returned (.int .i32 (g c))∧V W w' (J g bad::L)
 set:∀ (w:World) (L:List SP) (g:Nat→Int) (bad:Bool) (c:Nat) (v:Int),c<32→dp v→V W w (J g bad::L)→Calls prog fs (List.toArray [.pointer (some ad),.int .i64 c,.int .i32 v]) w λe w' =>
  ∃ (g':Nat→Int) (fp:Bool),e=.returned (.tuple #[])∧((fp=true∧g'=g)∨(fp=false∧bad=false∧g'=ca g c v))∧V W w' (J g' fp::L)
abbrev hs (p:Pr)(ao:Option Addr)(cO:Nat)(t:TypeId)(ad:Addr)(fr:Int)(adP:Option Addr)(UX cP:Nat)(aT:Nat):List Value :=
 [.string p.title,.slice ao p.ops.length cO,.iface t (.pointer (some ad)),.int .i64 fr,.slice adP UX cP,.int .i64 aT]
variable {t:TypeId}{ad:Addr}{tB fs gg aT cO cP:Nat}{J:(Nat→Int)→Bool→SP}{p:Pr}{ao adP:Option Addr}{fr:Int}{b:List UInt8}{g:Nat→Int}{bad:Bool}{o:gy}
theorem UY {x:Int}(I:V W w (aa gg 336 (hs p ao cO t ad fr adP b.length cP aT)::L))(hx:dp x)(hb:b.length≤1099511627776)(hp:∀ w',V W w' L→a6 w' adP b.length b) :
   Calls prog 240 #[pt gg,.int .i32 x] w λe w'=>e=.returned (.int .i32 (l3 b x))∧V W w' (aa gg 336 (hs p ao cO t ad fr adP b.length cP aT)::L):=by
 simp only[dp]at hx;refine EN func240 ntmps240 rfl rfl λa E=>?_;refine BY 7 E I (λbw a E=>?_) λbw a E=>?_
 ·
  refine RT 12 E I ?_;exact⟨by rw[l3,ae (by omega)],I⟩
 refine SX 1 E I (by rw[gr (by omega) (by omega)]) λa E=>?_;refine IF 7 E I (λaj a E=>?_) λaj a E=>?_
 ·
  refine RT 2 E I ?_;exact⟨by rw[l3,ae (by omega)],I⟩
 refine RN 1 E I λa E=>?_;obtain⟨k,hk⟩:∃ k:Nat,x=(k:Int):=⟨x.toNat,by omega⟩;obtain⟨_,_,aZ⟩:=hp _ I.tail;have xi:k<b.length:=by omega
 obtain⟨bp,op,gU,cK⟩:∃ bp op,adP=some ⟨bp,op,none⟩∧Rd w bp op (bc b):=by
  cases hh:adP with
  | none =>
   have:=(hp _ I.tail).2.1 hh;omega
  | some a =>
   obtain⟨b1,o1,rfl,h1⟩:=aZ a hh (by omega);exact⟨b1,o1,rfl,h1⟩
 rw[hk]at E;refine RN 4 E I λa E=>?_;rw[gU]at E;refine RN 2 E I λa E=>?_;refine SS E (ag E (cK k (.int .u8 b[k].toNat) (by simp[bc,xi]))) λa E=>?_;refine SX 0 E I (by have:=b[k].toNat_lt;exact hW (by omega) (by omega)) λa E=>?_;refine RT 1 E I ?_;refine⟨?_,I.sub⟩;rw[l3,al (by omega),hk,Int.toNat_natCast,bl,aO xi];rfl
theorem ni {c:Nat}{v:Int}(h:dP g)(hv:dp v):dP (ca g c v):=λd hd=>by
 simp only[ca];split
 ·exact hv
 ·exact h d hd
def pX (x:Int)(m:Nat):Prop:=∃ n:Nat,x=(n:Int)∧n≤m
def lx (x:Int)(m:Nat):Prop:=∃ n:Nat,x=(n:Int)∧n<m
theorem pX.of {x:Int}{m:Nat}(h:0≤x∧x≤m):pX x m:=⟨x.toNat,by omega,by omega⟩
theorem lx.of {x:Int}{m:Nat}(h:0≤x∧x<m):lx x m:=⟨x.toNat,by omega,by omega⟩
theorem UZ {M:xh W t ad tB fs J}{m:Nat}(I:V W w (aa gg 336 (hs p ao cO t ad fr adP b.length cP aT)::J g bad::L))(ho:eX m o)(h0:o.code≠0)(h9:o.code≠9)(fF:o.code≠10)(IC:o.code≠13)
   (aE:p.title.size≤1000000000) (hb:b.length≤1099511627776) (hp:∀ w',V W w' L→a6 w' adP b.length b) :
   Calls prog 230 #[pt gg,.agg (dO o).toArray] w λe w'=>e=.returned (.int .i32 (jm p fr b g o))∧V W w' (aa gg 336 (hs p ao cO t ad fr adP b.length cP aT)::J g bad::L):=by
 have hg:dP g:=M.ok _ _ g bad I.tail;have pY:=ho;simp only[eX,eW]at pY;have nX:o.code≠1→o.code≠15→lx o.b 32:=λh1 h2=>lx.of (by omega);have mL:3≤o.code∧o.code≤8→lx o.c 32:=λh=>lx.of (by omega);have qL:o.code≠1→o.code≠2→o.code≠11→o.code≠12→o.code≠14→o.code≠15→3≤o.code∧o.code≤8:=by omega
 clear pY;refine EN func230 ntmps230 rfl rfl λa E=>?_;refine BX 1 E I λb3 a w E I=>?_;change V W w (aa b3 114 (dO o)::_) at I;refine IF 8 E I (λaj a E=>?_) λaj a E=>?_
 ·
  refine RN 3 E I λa E=>?_;refine SS E (gd E underlying3 underlying21) λa E=>?_;refine RT 1 E I ?_;exact⟨by simp[jm,aj];rfl,I.sub⟩
 refine IF 3 E I (λan a E=>?_) λan a E=>?_
 ·
  refine RN 1 E I λa E=>?_;obtain⟨bx,dY,nY⟩:=nX (by omega) (by omega);refine bL 0 [5] [0,1,2,4,3003,1005,1006,7] E I λa w E I hH U=>?_;refine RH 6 E I hH U λa E=>?_;rw[dY]at E;refine jl E rfl M.nV M.nW rfl (M.get _ _ g bad bx nY (I.pick (J g bad))) (by rfl) ?_;clear E I;rintro e w ⟨rfl,I⟩;refine⟨_,rfl,λa E=>?_⟩;refine RN 1 E I λa E=>?_;refine RT 0 E I ?_;exact⟨by simp[jm,an,dY],I.sub⟩
 refine IF 3 E I (λay a E=>?_) λay a E=>?_
 ·
  refine RN 1 E I λa E=>?_;obtain⟨bx,dY,nY⟩:=nX (by omega) (by omega);refine bL 0 [6] [0,1,2,3,5,3004,1006,1007,1008,9] E I λa w E I hH U=>?_;refine RH 7 E I hH U λa E=>?_;rw[dY]at E;refine jl E rfl M.nV M.nW rfl (M.get _ _ g bad bx nY (I.pick (J g bad))) (by rfl) ?_;clear E I;rintro e w ⟨rfl,I⟩;refine⟨_,rfl,λa E=>?_⟩;refine CL 0 E I (UY (I.jy gg) (hg bx nY) hb (λw' h=>hp w' h.sub)) λa w E I=>?_;refine RN 1 E I λa E=>?_;refine RT 0 E I ?_;exact⟨by simp[jm,ay,dY],I.sub⟩
 refine IF 3 E I (λbg a E=>?_) λbg a E=>?_
 ·
  refine aY 1 (λw0 w'=>Rd w' gg 0 (hs p ao cO t ad fr adP b.length cP aT)∧Rd w' b3 0 (dO o)) [7,9,10,11] [0,1,2,4,5,6,8,3003,12,13,3007,1009,1010,1011,1014,15] E I λa w E I hH=>?_;obtain⟨bx,dY,nY⟩:=nX (by omega) (by omega);have xj:=w4 (g bx);have jo:Rd w gg 0 (hs p ao cO t ad fr adP b.length cP aT):=I.ai;have gA:Rd w b3 0 (dO o):=I.ai;have U:=And.intro jo gA;refine RH 7 E I hH U λa E=>?_;refine QH E (λw hc=>ag E (hc.1 2 _ rfl)) U λa E=>?_;refine RH 2 E I hH U λa E=>?_;refine QH E (λw hc=>ag E (hc.1 2 _ rfl)) U λa E=>?_;refine RH 0 E I hH U λa E=>?_;refine SS E (ag E (U.2 2 _ rfl)) λa E=>?_;rw[dY]at E;refine RH 0 E I hH U λa E=>?_;refine jl E rfl M.nV M.nW rfl (M.get _ _ g bad bx nY (I.pick (J g bad))) (by rfl) ?_;clear E I;rintro e w ⟨rfl,I⟩;refine⟨_,rfl,λa E=>?_⟩;replace U:=hH.at w (And.intro I.ai I.ai);refine RH 0 E I hH U λa E=>?_;refine CL 0 E I (IJ I (hg bx nY)) λa w E I=>?_;replace U:=hH.at w (And.intro I.ai I.ai);refine RH 0 E I hH U λa E=>?_;refine jl E rfl M.nV M.nW rfl (M.get _ _ g bad (ke (g bx)) xj (I.pick (J g bad))) (by rfl) ?_;clear E I;rintro e w ⟨rfl,I⟩;refine⟨_,rfl,λa E=>?_⟩;refine RN 1 E I λa E=>?_;refine RT 0 E I ?_;exact⟨by simp[jm,bg,dY],I.sub⟩
 refine IF 3 E I (λbM a E=>?_) λbM a E=>?_
 ·
  refine aY 1 (λw0 w'=>Rd w' gg 0 (hs p ao cO t ad fr adP b.length cP aT)∧Rd w' b3 0 (dO o)) [8,10,11,12] [0,1,2,3,5,6,7,9,3004,3008,1010,1011,1012,1013,14] E I λa w E I hH=>?_;obtain⟨bx,dY,nY⟩:=nX (by omega) (by omega);have IL:=hg bx nY;have U1:=IL;simp only[dp]at U1;have jo:Rd w gg 0 (hs p ao cO t ad fr adP b.length cP aT):=I.ai;have gA:Rd w b3 0 (dO o):=I.ai;have U:=And.intro jo gA;refine RH 8 E I hH U λa E=>?_;refine QH E (λw hc=>ag E (hc.1 0 _ rfl)) U λa E=>?_;refine QH E (λw hc=>ag E (hc.1 2 _ rfl)) U λa E=>?_;refine RH 0 E I hH U λa E=>?_;refine SS E (ag E (U.2 2 _ rfl)) λa E=>?_;rw[dY]at E;refine RH 0 E I hH U λa E=>?_;refine jl E rfl M.nV M.nW rfl (M.get _ _ g bad bx nY (I.pick (J g bad))) (by rfl) ?_;clear E I;rintro e w ⟨rfl,I⟩;refine⟨_,rfl,λa E=>?_⟩;replace U:=hH.at w (And.intro I.ai I.ai);refine RH 0 E I hH U λa E=>?_;refine SX 0 E I (by rw[gr (by omega) (by omega)]) λa E=>?_;refine RH 0 E I hH U λa E=>?_;refine CL 0 E I (UW I (by omega) IL) λa w E I=>?_;refine RN 1 E I λa E=>?_;refine RT 0 E I ?_;exact⟨by simp[jm,bM,dY],I.sub⟩
 refine IF 3 E I (λeP a E=>?_) λeP a E=>?_
 ·
  refine RN 5 E I λa E=>?_;refine SS E (gd E underlying3 underlying100) λa E=>?_;refine RN 0 E I λa E=>?_;refine SS E (gd E underlying100 underlying21) λa E=>?_;refine RT 1 E I ?_;refine⟨?_,I.sub⟩;have e:IntKind.i32.wrap (IntKind.u32.wrap fr)=hV fr:=by
   simp only[hV,IntKind.wrap,IntKind.signed,IntKind.bits];have:fr%4294967296%4294967296=fr%4294967296:=Int.emod_emod_of_dvd _ (Int.dvd_refl _);simp[this]
  simp[jm,eP,e]
 refine RN 1 E I λa E=>?_;obtain⟨bx,dY,nY⟩:=nX (by omega) (by omega);obtain⟨tg,oZ,U6⟩:=mL (qL aj an ay bg bM eP);refine bL 0 [5] [0,1,2,4,3003,1005,1006,7] E I λa w E I hH U=>?_;refine RH 6 E I hH U λa E=>?_;rw[dY]at E;refine jl E rfl M.nV M.nW rfl (M.get _ _ g bad bx nY (I.pick (J g bad))) (by rfl) ?_;clear E I;rintro e w ⟨rfl,I⟩;refine⟨_,rfl,λa E=>?_⟩;refine RN 1 E I λa E=>?_;refine aY 1 (λw0 w'=>Rd w' gg 0 (hs p ao cO t ad fr adP b.length cP aT)∧Rd w' b3 0 (dO o)) [6,8,9] [0,2,3,4,5,7,3001,3006,1008,1009,1010,11] E I λa w E I hH=>?_;have jo:Rd w gg 0 (hs p ao cO t ad fr adP b.length cP aT):=I.ai;have gA:Rd w b3 0 (dO o):=I.ai;have U:=And.intro jo gA;refine RH 6 E I hH U λa E=>?_;refine QH E (λw hc=>ag E (hc.2 0 _ rfl)) U λa E=>?_;refine QH E (λw hc=>ag E (hc.1 2 _ rfl)) U λa E=>?_;refine RH 0 E I hH U λa E=>?_;refine SS E (ag E (U.2 3 _ rfl)) λa E=>?_;rw[oZ]at E;refine RH 0 E I hH U λa E=>?_;refine jl E rfl M.nV M.nW rfl (M.get _ _ g bad tg U6 (I.pick (J g bad))) (by rfl) ?_;clear E I;rintro e w ⟨rfl,I⟩;refine⟨_,rfl,λa E=>?_⟩;replace U:=hH.at w (And.intro I.ai I.ai);refine RH 0 E I hH U λa E=>?_;refine CL 0 E I (UU I) λa w E I=>?_;refine RN 1 E I λa E=>?_;refine RT 0 E I ?_;exact⟨by simp[jm,aj,an,ay,bg,bM,eP,dY,oZ],I.sub⟩
theorem IM (s:ByteArray)(n:Int):dp (mG s n):=by
 have hb:∀ pos,∀ x∈eb s pos,x.1<1114112:=by
  have h:∀ k pos,s.size-pos≤k→∀ x∈eb s pos,x.1<1114112:=by
   intro k
   induction k with
   | zero=>intro pos h x hx;rw[qF (by omega)]at hx;simp at hx
   | succ k ih =>
    intro pos h x hx;by_cases hp:pos<s.size
    ·rw[qE hp]at hx;rcases List.mem_cons.1 hx with rfl | hx
     ·exact TV s pos
     ·have:=(tu s pos).1;exact ih (dZ s pos) (by rw[dZ,al hp];omega) x hx
    ·rw[qF hp]at hx;simp at hx
  exact λpos=>h _ pos (bh _)
 simp only[mG,dp];split
 ·cases hx:(eb s 0)[n.toNat]? with
  | none=>simp
  | some x =>
   have:=hb 0 x (bE hx);simp only[Option.map_some,Option.getD_some];omega
 ·omega
theorem IN (k x y:Int):dp (iL k x y):=by
 unfold iL;have h1:dp 1:=by simp[dp]
 have h0:dp 0:=by simp[dp]
 repeat' split
 all_goals first | exact w5 _ | exact h1 | exact h0
theorem IP (b:List UInt8)(x:Int):dp (l3 b x):=by
 simp only[l3,dp];split
 ·have:=(b.getD x.toNat 0).toNat_lt;omega
 ·omega
theorem IQ {m:Int}(hg:dP g)(ho:eX m o)(h9:o.code≠9)(fF:o.code≠10):dp (jm p fr b g o):=by
 simp only[eX,eW]at ho;have hb:o.code≠1→o.code≠15→o.code≠0→o.b.toNat<32:=λh1 h2 h3=>by omega
 have h0:o.code=0→o.b.toNat<32:=λh=>by omega
 unfold jm;split
 ·exact w5 _
 ·split
  ·exact hg _ (hb (by omega) (by omega) (by omega))
  ·split
   ·exact IP _ _
   ·split
    ·exact hg _ (w4 _)
    ·split
     ·exact IM _ _
     ·split
      ·exact w5 _
      ·exact IN _ _ _
set_option maxHeartbeats 4000000 in
theorem U7 {M:xh W t ad tB fs J}(I:V W w (aa gg 336 (hs p ao cO t ad fr adP b.length cP aT)::J g bad::aA W p ao cO::L))(aZ:∀ o∈p.ops,eX p.ops.length o)(eZ:p.ops[aT]?=some o)
   (aE:p.title.size≤1000000000) (dX:p.ops.length≤1000000000) (hb:b.length≤1099511627776) (hp:∀ w',V W w' L→a6 w' adP b.length b) :
   Calls prog 203 #[pt gg] w λe w'=>∃ (g':Nat→Int) (xk:Nat) (fp r:Bool),e=.returned (.bool r)∧(fp=false→bad=false∧eh p fr b g aT o=(g',xk,r))∧xk≤p.ops.length ∧
    V W w' (aa gg 336 (hs p ao cO t ad fr adP b.length cP xk)::J g' fp::aA W p ao cO::L):=by
 have hg:dP g:=M.ok _ _ g bad I.tail;have ho:=aZ o (bE eZ);have adO:=(a1.1 eZ).1;have pY:=ho;simp only[eX,eW]at pY;have CY:o.code=9→pX o.a p.ops.length:=λh=>pX.of (by omega);have jN:o.code≠9→o.code≠0→lx o.a 32:=λh h2=>lx.of (by omega);have CZ:o.code=10→pX o.b p.ops.length:=λh=>pX.of (by omega);have U8:o.code=13→lx o.b 32:=λh=>lx.of (by omega);clear pY;refine EN func203 ntmps203 rfl rfl λa E=>?_;refine bL 3 [8,11] [0,1,2,3,5,6,7,3004,3008,9,3010,1011,1012] E I λa w E I hH U=>?_;obtain⟨kq,oo,gU,gA⟩:=I.qH ao (by omega);rw[gU]at I;replace hH:=Hd.gq I;refine RH 10 E I hH U λa E=>?_;refine QH E (λw hc=>bO E underlying114 rfl Ty.t114 (hc.rd (ve gA eZ))) U λa E=>?_;refine RH 0 E I hH U λa E=>?_;refine eS E rfl I Ty.t114 rfl λb3 a w E I ho=>?_;replace U:=U.trans ho;clear ho;refine RH 0 E I hH U λa E=>?_;refine SA 0 E I λa w E I=>?_;refine RN 0 E I λa E=>?_;rw[← gU]at I;replace E:=E.ab [0,3];refine ST 8 E I (λa w E I=>?_) (hlt:=(by simp[hs]));rw[show ((aT:Int)+1)=((aT+1:Nat):Int) from rfl]at I;change V W w (aa gg 336 (hs p ao cO t ad fr adP b.length cP (aT+1))::_) at I;refine IF 7 E I (λaj a E=>?_) λaj a E=>?_
 ·
  refine RT 2 E I ?_;exact⟨g,aT+1,bad,false,rfl,λh=>⟨h,by rw[eh,al aj]⟩,by omega,I.sub⟩
 refine IF 3 E I (λan a E=>?_) λan a E=>?_
 ·
  obtain⟨cA,dL,jO⟩:=CY an;refine ST 5 E I (λa w E I=>?_) (hlt:=(by simp[hs]));rw[dL]at I;change V W w (aa gg 336 (hs p ao cO t ad fr adP b.length cP cA)::_) at I;refine RT 2 E I ?_;exact⟨g,cA,bad,true,rfl,λh=>⟨h,by rw[eh,ae aj,al an,dL];rfl⟩,by omega,I.sub⟩
 refine IF 3 E I (λay a E=>?_) λay a E=>?_
 ·
  refine RN 1 E I λa E=>?_;obtain⟨cA,dL,jO⟩:=jN an aj;obtain⟨bx,dY,iw⟩:=CZ ay;refine bL 0 [5] [0,1,2,4,3003,1005,1006,7] E I λa w E I hH U=>?_;refine RH 6 E I hH U λa E=>?_;rw[dL]at E;refine jl E rfl M.nV M.nW rfl (M.get _ _ g bad cA jO (I.pick (J g bad))) (by rfl) ?_;clear E I;rintro e w ⟨rfl,I⟩;refine⟨_,rfl,λa E=>?_⟩;refine RN 1 E I λa E=>?_;refine IF 0 E I (λbg a E=>?_) λbg a E=>?_
  ·
   refine ST 5 E I (λa w E I=>?_) (hlt:=(by simp[hs]));rw[dY]at I;change V W w (aa gg 336 (hs p ao cO t ad fr adP b.length cP bx)::_) at I;refine RT 2 E I ?_;exact⟨g,bx,bad,true,rfl,λh=>⟨h,by rw[eh,ae aj,ae an,al ay,dL,dY,Int.toNat_natCast,al bg];rfl⟩,by omega,I.sub⟩
  refine RT 2 E I ?_;exact⟨g,aT+1,bad,true,rfl,λh=>⟨h,by rw[eh,ae aj,ae an,al ay,dL,Int.toNat_natCast,ae bg]⟩,by omega,I.sub⟩
 refine IF 3 E I (λbM a E=>?_) λbM a E=>?_
 ·
  refine RN 1 E I λa E=>?_;obtain⟨cA,dL,jO⟩:=jN an aj;obtain⟨bx,dY,iw⟩:=U8 bM;refine bL 0 [5] [0,1,2,4,3003,1005,1006,1007,8] E I λa w E I hH U=>?_;refine RH 6 E I hH U λa E=>?_;rw[dL]at E;refine jl E rfl M.nV M.nW rfl (M.get _ _ g bad cA jO (I.pick (J g bad))) (by rfl) ?_;clear E I;rintro e w ⟨rfl,I⟩;refine⟨_,rfl,λa E=>?_⟩;refine CL 0 E I (IJ I (hg cA jO)) λa w E I=>?_;refine RN 1 E I λa E=>?_;refine aY 0 (λw0 w'=>Rd w' gg 0 (hs p ao cO t ad fr adP b.length cP (aT+1))∧Rd w' b3 0 (dO o)) [8,10,11] [0,1,2,4,5,6,7,9,3003,12,13,3008,1010,1011,1014] E I λa w E I hH=>?_;have jo:Rd w gg 0 (hs p ao cO t ad fr adP b.length cP (aT+1)):=I.ai;have jP:Rd w b3 0 (dO o):=I.ai;have U:=And.intro jo jP;refine RH 8 E I hH U λa E=>?_;refine QH E (λw hc=>ag E (hc.1 2 _ rfl)) U λa E=>?_;refine RH 2 E I hH U λa E=>?_;refine QH E (λw hc=>ag E (hc.1 2 _ rfl)) U λa E=>?_;refine RH 0 E I hH U λa E=>?_;refine SS E (ag E (U.2 2 _ rfl)) λa E=>?_;rw[dY]at E;refine RH 0 E I hH U λa E=>?_;refine jl E rfl M.nV M.nW rfl (M.get _ _ g bad bx iw (I.pick (J g bad))) (by rfl) ?_;clear E I;rintro e w ⟨rfl,I⟩;refine⟨_,rfl,λa E=>?_⟩;replace U:=hH.at w (And.intro I.ai I.ai);refine RH 0 E I hH U λa E=>?_;refine jl E rfl M.zm M.u1 rfl (M.set _ _ g bad (ke (g cA)) (g bx) (w4 _) (hg bx iw) (I.pick (J g bad))) (by rfl) ?_;clear E I;rintro e w ⟨g',fp,rfl,w9,I⟩;refine⟨_,rfl,λa E=>?_⟩;refine RT 2 E I ?_;refine⟨g',aT+1,fp,true,rfl,λh=>?_,by omega,I.sub⟩;obtain⟨_,h1,h2⟩:=w9.resolve_left (λh3=>by rw[h]at h3;cases h3.1);exact⟨h1,by rw[eh,ae aj,ae an,ae ay,al bM,dL,dY,Int.toNat_natCast,Int.toNat_natCast,h2]⟩
 refine aY 0 (λw0 w'=>Rd w' gg 0 (hs p ao cO t ad fr adP b.length cP (aT+1))∧Rd w' b3 0 (dO o)) [5,7,8] [0,1,2,4,6,3003,9,10,3005,1007,1008,1011] E I λa w E I hH=>?_;obtain⟨cA,dL,jO⟩:=jN an aj;have jo:Rd w gg 0 (hs p ao cO t ad fr adP b.length cP (aT+1)):=I.ai;have jP:Rd w b3 0 (dO o):=I.ai;have U:=And.intro jo jP;refine RH 5 E I hH U λa E=>?_;refine QH E (λw hc=>ag E (hc.1 2 _ rfl)) U λa E=>?_;refine RH 2 E I hH U λa E=>?_;refine QH E (λw hc=>ag E (hc.2 1 _ rfl)) U λa E=>?_;rw[dL]at E;refine RH 0 E I hH U λa E=>?_;refine SS E (bO E underlying114 rfl Ty.t114 (U.2)) λa E=>?_;refine RH 0 E I hH U λa E=>?_;refine CL 0 E I (UZ (M:=M) (L:=aa b3 114 (dO o)::aA W p ao cO::L) (I.sub (M:=aa gg 336 (hs p ao cO t ad fr adP b.length cP (aT+1))::J g bad::aa b3 114 (dO o)::aA W p ao cO::L)) ho aj an ay bM aE hb (λw' h=>hp w' h.sub)) λa w E I=>?_;replace U:=hH.at w (And.intro I.ai I.ai);refine RH 0 E I hH U λa E=>?_;refine jl E rfl M.zm M.u1 rfl (M.set _ _ g bad cA (jm p fr b g o) jO (IQ hg ho an ay) (I.pick (J g bad))) (by rfl) ?_;clear E I;rintro e w ⟨g',fp,rfl,w9,I⟩;refine⟨_,rfl,λa E=>?_⟩;refine RT 2 E I ?_;refine⟨g',aT+1,fp,true,rfl,λh=>?_,by omega,I.sub⟩;obtain⟨_,h1,h2⟩:=w9.resolve_left (λh3=>by rw[h]at h3;cases h3.1);exact⟨h1,by rw[eh,ae aj,ae an,ae ay,ae bM,dL,Int.toNat_natCast,h2]⟩
theorem C0 {n:Nat}(h:p.ops[aT]?=some o):pT p fr b (n+1) g aT=if (eh p fr b g aT o).2.2 then pT p fr b n (eh p fr b g aT o).1 (eh p fr b g aT o).2.1 else (eh p fr b g aT o).1:=by
 rw[pT];simp only[h]
theorem C1 {n:Nat}(h:p.ops.length≤aT):pT p fr b n g aT=g:=by
 cases n with
 | zero=>rfl
 | succ n=>rw[pT];simp only[iP h]
set_option maxHeartbeats 4000000 in
theorem IS {M:xh W t ad tB fs J}(I:V W w (J g bad::aA W p ao cO::L))(aZ:dj p)(aE:p.title.size≤1000000000)(hb:b.length≤1099511627776)(hp:∀ w',V W w' L→a6 w' adP b.length b) :
   Calls prog 174 #[.agg (bJ p ao cO).toArray,.iface t (.pointer (some ad)),.int .i64 fr,.slice adP b.length cP] w λe w'=>∃ (g':Nat→Int) (fp:Bool) (n:Int),e=.returned (.int .i64 n)∧(fp=false→bad=false∧g'=eY p fr b g) ∧
    V W w' (J g' fp::aA W p ao cO::L):=by
 have dX:p.ops.length≤64:=aZ.1.2.2.1;refine EN func174 ntmps174 rfl rfl λa E=>?_;refine BX 1 E I λb4 a w E I=>?_;change V W w (aa b4 45 (bJ p ao cO)::_) at I;refine RN 6 E I λa E=>?_;replace E:=E.aN 13;refine bd 1 E I (CX (I.pick (aA W p ao cO)) aE (by omega)) λr a w E ⟨hr,I⟩=>?_;rw[hr.2 aZ]at E;refine RN 1 E I λa E=>?_;rw[show (!true)=false from rfl]at E;refine RN 1 E I λa E=>?_;replace E:=E.aN 17;refine RN 3 E I λa E=>?_;change Fr a 42 ((18,.agg (List.toArray [.string p.title,.slice ao p.ops.length cO]))::_) at E;refine BX 4 E I λxl a w E I=>?_;change V W w (aa xl 336 (hs p ao cO t ad fr adP b.length cP 0)::_) at I;refine RN 4 E I λa E=>?_;refine aS (λμ a w=>∃ (n aT:Nat) (g':Nat→Int) (fp:Bool),(μ=200-n∧n≤200∧aT≤p.ops.length∧(fp=false→bad=false∧pT p fr b (200-n) g' aT=eY p fr b g))∧Fr a 42 [(4,pt b4),(9,pt xl),(10,.int .i64 n)]∧V W w (aa xl 336 (hs p ao cO t ad fr adP b.length cP aT)::aa b4 45 (bJ p ao cO)::J g' fp::aA W p ao cO::L)) (200) (⟨0,0,g,bad,⟨by simp,by simp,by simp,λh=>⟨h,rfl⟩⟩,E.ab [4,9,10],I.sub⟩) ?_;clear E I;rintro μ a w ⟨n,aT,g',fp,⟨rfl,hn,eZ,nZ⟩,E,I⟩;refine bL 2 [8,9] [0,1,2,3,4,5,7,3006,1008,1009,10,11] E I λa w E I hH U=>?_;refine RH 3 E I hH U λa E=>?_;refine E.by (s:=26) (λbw E=>?_) (λbw E=>?_)
 ·
  refine RH 9 E I hH U λa E=>?_;refine IF 0 E I (λan a E=>?_) λan a E=>?_
  ·
   obtain⟨o,ho⟩:∃ o,p.ops[aT]?=some o:=⟨_,aO (by omega)⟩;have aQ:=C0 (p:=p) (fr:=fr) (b:=b) (g:=g') (n:=200-(n+1)) ho;rw[show 200-(n+1)+1=200-n from by omega]at aQ;refine jE 6 E I (U7 (M:=M) (L:=aa b4 45 (bJ p ao cO)::L) (I.sub (M:=aa xl 336 (hs p ao cO t ad fr adP b.length cP aT)::J g' fp::aA W p ao cO::aa b4 45 (bJ p ao cO)::L)) aZ.2 ho aE (by omega) hb (λw' h=>hp w' h.tail)) ?_;clear E I;rintro e w ⟨mA,xk,zn,r2,rfl,fN,Va,I⟩;refine⟨_,rfl,λa E=>?_⟩;refine IF 1 E I (λay a E=>?_) λay a E=>?_
   ·
    have u5:r2=false:=by simpa using ay
    have C3:zn=false→bad=false∧mA=eY p fr b g:=λh=>by
     obtain⟨h1,h2⟩:=fN h;obtain⟨h3,h4⟩:=nZ h1;refine⟨h3,?_⟩;rw[aQ,h2,u5]at h4;exact h4
    refine RT 3 E I ?_;exact⟨mA,zn,_,rfl,C3,I.sub⟩
   have oX:r2=true:=by simpa using ay
   refine RN 0 E I λa E=>?_;refine⟨200-(n+1),by omega,n+1,xk,mA,zn,⟨rfl,by omega,Va,λh=>?_⟩,E.ab [4,9,10],I.sub⟩;obtain⟨h1,h2⟩:=fN h;obtain⟨h3,h4⟩:=nZ h1;refine⟨h3,?_⟩;rw[aQ,h2,oX]at h4;exact h4
  refine RT 3 E I ?_;refine⟨g',fp,_,rfl,λh=>?_,I.sub⟩;obtain⟨h3,h4⟩:=nZ h;rw[C1 (by omega)]at h4;exact⟨h3,h4⟩
 have o0:n=200:=by omega
 refine RH 9 E I hH U λa E=>?_;refine RT 4 E I ?_;refine⟨g',fp,_,rfl,λh=>?_,I.sub⟩;obtain⟨h3,h4⟩:=nZ h;rw[o0]at h4;exact⟨h3,h4⟩
end
end
section
def distinct:List Nat→Nat
 | []=>0
 | x::l=>distinct l+if x∈l then 0 else 1
def kD (l:List aC):List Nat:=l.flatMap λx=>[x.p 0,x.p 1,x.p 2,x.p 3]
theorem Vb {l:List aC}{p:Nat}:p∈kD l↔0<cQ l p:=by
 induction l with
 | nil=>simp[kD,cQ]
 | cons x l ih =>
  rw[rY];have h1:kD (x::l)=[x.p 0,x.p 1,x.p 2,x.p 3]++kD l:=rfl;rw[h1,eV,ih];constructor
  ·rintro (h | h)
   ·have h2 : 0 < g7 x p := HN.2 (by
     simp at h;rcases h with h | h | h | h
     ·exact⟨0,by omega,h.symm⟩
     ·exact⟨1,by omega,h.symm⟩
     ·exact⟨2,by omega,h.symm⟩
     ·exact⟨3,by omega,h.symm⟩)
    omega
   ·omega
  ·intro h;by_cases h2:0<g7 x p
   ·left;obtain⟨k,hk,rfl⟩:=HN.1 h2;rcases (by omega:k=0∨k=1∨k=2∨k=3) with rfl | rfl | rfl | rfl <;> simp
   ·right;omega
theorem Vc (n:Nat)(f:Nat→Bool)(x:Nat)(hx:x<n)(h0:f x=false):(List.range n).countP (λp=>p==x||f p)=(List.range n).countP f+1:=by
 induction n with
 | zero=>omega
 | succ n ih =>
  rw[range_succ,List.countP_append,List.countP_append,List.countP_singleton,List.countP_singleton];by_cases hn:x=n
  ·subst hn;have:(List.range x).countP (λp=>p==x||f p)=(List.range x).countP f:=countP_congr λp hp=>by
    have:p<x:=mem_range.1 hp;have h2:(p==x)=false:=by simp;omega
    simp[h2]
   rw[this,h0];simp
  ·have h2:(n==x)=false:=by simp;omega
   rw[ih (by omega),h2];simp;omega
theorem IT (n:Nat):∀ l:List Nat,(∀ p∈l,p<n)→(List.range n).countP (λp=>decide (p∈l))=distinct l
 | [],_=>by simp[distinct]
 | x::l,h=>by
  have ih:=IT n l λp hp=>h p (gP _ hp);rw[distinct,← ih];by_cases hx:x∈l
  ·rw[al hx,Nat.add_zero];refine countP_congr λp _=>?_;simp only[List.mem_cons,decide_eq_true_eq];exact⟨λhp=>by rcases hp with rfl | hp;exact hx;exact hp,λhp=>.inr hp⟩
  ·rw[ae hx];have:=Vc n (λp=>decide (p∈l)) x (h x mem_cons_self) (by simp[hx]);rw[← this];refine countP_congr λp _=>?_;simp
theorem Vd {A:Sn}(h:∀ x∈A.ar,∀ k,k<4→x.p k<A.room):A.used=distinct (kD A.ar):=by
 rw[← IT A.room (kD A.ar) (λp hp=>?_)]
 ·rw[Sn.used];refine countP_congr λp _=>?_;simp[Vb]
 ·simp only[kD,List.mem_flatMap]at hp;obtain⟨x,hx,hp⟩:=hp;simp at hp;rcases hp with rfl | rfl | rfl | rfl <;> exact h x hx _ (by omega)
section
variable {W w:World}{L R:List SP}{q r:Nat}{A:Sn}
class vn (L:List SP)(q:Nat)(r:outParam Nat)(A:outParam Sn)(R:outParam (List SP)):Prop where perm:L.Perm (aw q r A::R)
instance vn.head {L q r A}:vn (aw q r A::L) q r A L:=⟨List.Perm.refl _⟩
instance (priority:=low) vn.tail {B L q r A R}[h:vn L q r A R]:vn (B::L) q r A (B::R):=⟨(List.Perm.cons B h.perm).trans (List.Perm.swap _ _ _)⟩
theorem V.store (I:V W w L)(q:Nat)[k:vn L q r A R]:V W w (aw q r A::R):=I.perm k.perm
theorem aw.facts (I:V W w (aw q r A::L)):WF A∧∀ x∈A.ar,∀ k,k<4→x.p k<A.room:=by
 obtain⟨b,m,ps,xs,h1,hw,hr,I⟩:=aw.open I;exact⟨hw,λx hx k hk=>by rw[← hr.len];exact (hr.live hx hk).1⟩
theorem aw.used (I:V W w (aw q r A::L)):A.used=distinct (kD A.ar):=Vd (aw.facts I).2
end
end
section
theorem Ve (l:List aC)(p:Nat):(kD l).count p=cQ l p:=by
 induction l with
 | nil=>rfl
 | cons x l ih =>
  have h1:kD (x::l)=[x.p 0,x.p 1,x.p 2,x.p 3]++kD l:=rfl;rw[h1,List.count_append,ih,rY,tj];simp only[List.count_cons,List.count_nil,beq_iff_eq];omega
theorem IU (p:Nat):∀ l:List Nat,distinct l+(l.count p-1)≤l.length
 | []=>by simp[distinct]
 | x::l=>by
  have ih:=IU p l;rw[distinct,List.count_cons,e9];by_cases hx:x=p
  ·subst hx;by_cases hm:x∈l
   ·have:=List.count_pos_iff.2 hm;simp[hm];omega
   ·have:=List.count_eq_zero.2 hm;simp[hm];omega
  ·have h1:(x==p)=false:=by simpa using hx
   simp only[h1,Bool.false_eq_true,if_false,Nat.add_zero];split <;> omega
theorem Vf (l:List aC):(kD l).length=4*l.length:=by
 induction l with
 | nil=>rfl
 | cons x l ih =>
  have h1:kD (x::l)=[x.p 0,x.p 1,x.p 2,x.p 3]++kD l:=rfl;rw[h1,aK,ih,e9];simp;omega
section
variable {W w:World}{L:List SP}{q r i bc:Nat}{A:Sn}{x px:aC}
theorem aw.shared (I:V W w (aw q r A::L)){p:Nat}(h:1<cQ A.ar p):A.used<4*A.ar.length:=by
 have h1:=IU p (kD A.ar);rw[← aw.used I,Ve,Vf]at h1;omega
theorem Vg {c:Nat}{v:Int}(I:V W w (aw q r A::L))(hx:A.ar[i]?=some x)(hc:c<32) :
   Calls prog 346 #[pt q,.int .i64 x.id,.int .i64 c,.int .i32 v] w λe w'=>∃ (ok:Bool) (p':Nat→Nat),e=.returned (.bool ok)∧(ok=false→¬ 4*A.ar.length≤A.room) ∧
    ((ok=true∧V W w' (aw q r { A with ar:=A.ar.set i { x with g:=ca x.g c v,p:=p' } }::L))∨(ok=false∧V W w' (aw q r A::L))):=by
 have n0:c/8<4:=by omega
 by_cases h1:1<cQ A.ar (x.p (c/8))
 ·by_cases hu:A.used<A.room
  ·exact (Tc (v:=v) I hx hc h1 hu).mono λe w' ⟨f,h2,_,I⟩=>⟨true,λj=>if j=c/8 then f else x.p j,h2,λh=>(by cases h),.inl ⟨rfl,I⟩⟩
  ·have hsh:=aw.shared I h1;exact (Td (v:=v) I hx hc h1 (by omega)).mono λe w' ⟨h2,I⟩=>⟨false,x.p,h2,λ_=>by omega,.inr ⟨rfl,I⟩⟩
 ·have h3 : cQ A.ar (x.p (c / 8)) = 1 := by
   have h4:=tk (bE hx) (x.p (c/8));have h5:=rX (x:=x) n0;omega
  exact (Ta (v:=v) I hx hc h3).mono λe w' ⟨h2,I⟩=>⟨true,x.p,h2,λh=>(by cases h),.inl ⟨rfl,I⟩⟩
theorem Vh {g:Nat→Int}{c:Nat}{v:Int}(h:dP g)(hv:dp v):dP (ca g c v):=λj hj=>by
 simp only[ca];split
 ·exact hv
 ·exact h j hj
def Jw (q r bc i:Nat)(A:Sn)(px:aC)(g:Nat→Int)(bad:Bool):SP:=λh=>∃ p':Nat→Nat,(dP g∧(bad=true→¬ 4*A.ar.length≤A.room)) ∧
 ck [aa bc 307 [pt q,.int .i64 px.id,.bool bad],aw q r { A with ar:=A.ar.set i ⟨px.id,px.refs,g,p'⟩ }] h
theorem Jw.open {g:Nat→Int}{bad:Bool}(I:V W w (Jw q r bc i A px g bad::L)):∃ p':Nat→Nat,(dP g∧(bad=true→¬ 4*A.ar.length≤A.room)) ∧
   V W w (aa bc 307 [pt q,.int .i64 px.id,.bool bad]::aw q r { A with ar:=A.ar.set i ⟨px.id,px.refs,g,p'⟩ }::L):=by
 obtain⟨p',h1,h2⟩:=I.jj (ι:=Nat→Nat) (p:=λ_=>dP g∧(bad=true→¬ 4*A.ar.length≤A.room)) (B:=λp' h=>ck [aa bc 307 [pt q,.int .i64 px.id,.bool bad],aw q r { A with ar:=A.ar.set i ⟨px.id,px.refs,g,p'⟩ }] h) (λh ⟨p',h1,h2⟩=>⟨p',h1,h2⟩);exact⟨p',h1,h2.open λ_ h=>h⟩
theorem Jw.close {g:Nat→Int}{bad:Bool}{p':Nat→Nat}(I:V W w (aa bc 307 [pt q,.int .i64 px.id,.bool bad]::aw q r { A with ar:=A.ar.set i ⟨px.id,px.refs,g,p'⟩ }::L))(h1:dP g)(h2:bad=true→¬ 4*A.ar.length≤A.room) :
   V W w (Jw q r bc i A px g bad::L):=V.shut (M:=[_,_]) I (λ_ x=>⟨p',⟨h1,h2⟩,x⟩)
theorem Vi {g:Nat→Int}{bad:Bool}{c:Nat}(hx:i<A.ar.length)(hc:c<32)(I:V W w (Jw q r bc i A px g bad::L)) :
   Calls prog 353 (List.toArray [pt bc,.int .i64 c]) w λe w'=>e=.returned (.int .i32 (g c))∧V W w' (Jw q r bc i A px g bad::L):=by
 obtain⟨p',⟨h1,h2⟩,I⟩:=Jw.open I;refine EN func353 ntmps353 rfl rfl λa E=>?_;refine bL 3 [7] [0,1,2,4,5,6,8,3003,1007,1009,10,11,12,13,14] E I λa w E I hH U=>?_;refine RH 9 E I hH U λa E=>?_;refine CL 0 E I (HU (i:=i) (x:=⟨px.id,px.refs,g,p'⟩) (I.store q) (by simp[hx]) hc) λa w E I=>?_;refine RN 5 E I λa E=>?_;refine RT 3 E I ?_;exact⟨rfl,Jw.close (p':=p') I.sub h1 h2⟩
theorem Vj {g:Nat→Int}{bad:Bool}{c:Nat}{v:Int}(hx:i<A.ar.length)(hc:c<32)(hv:dp v)(I:V W w (Jw q r bc i A px g bad::L)) :
   Calls prog 354 (List.toArray [pt bc,.int .i64 c,.int .i32 v]) w λe w'=>∃ (g':Nat→Int) (fp:Bool),e=.returned (.tuple #[])∧((fp=true∧g'=g)∨(fp=false∧bad=false∧g'=ca g c v))∧V W w' (Jw q r bc i A px g' fp::L):=by
 obtain⟨p',⟨h1,h2⟩,I⟩:=Jw.open I;refine EN func354 ntmps354 rfl rfl λa E=>?_;refine bL 0 [13] [0,1,2,3,1004,5,6,7,8,10,11,12,14,15,3009,1013,1016,17,18,19,20,1021] E I λa w E I hH U=>?_;refine RH 6 E I hH U λa E=>?_;refine E.by (s:=11) (λiM E=>?_) (λiM E=>?_)
 ·
  refine RH 15 E I hH U λa E=>?_;refine ST 0 E I (λa w E I=>?_);refine RT 0 E I ?_;exact⟨g,true,rfl,.inl ⟨rfl,rfl⟩,Jw.close (p':=p') I.sub h1 (λ_=>h2 iM)⟩
 refine RH 10 E I hH U λa E=>?_;refine a2 0 E I (Vg (i:=i) (x:=⟨px.id,px.refs,g,p'⟩) (v:=v) (I.store q) (by simp[hx]) hc) λok p2 a w E ⟨dm,Vk⟩=>?_;obtain⟨H6,I⟩:(ok=ok)∧V W w (aw q r { A with ar:=A.ar.set i ⟨px.id,px.refs,if ok then ca g c v else g,if ok then p2 else p'⟩ }::aa bc 307 [pt q,.int .i64 px.id,.bool bad]::L):=by
  refine⟨rfl,?_⟩;rcases Vk with ⟨rfl,I⟩ | ⟨rfl,I⟩
  ·simp only[set_set]at I;exact I
  ·exact I
 refine ST 4 E I (λa w E I=>?_);refine RT 0 E I ?_;refine⟨if ok then ca g c v else g,!ok,rfl,?_,Jw.close (p':=if ok then p2 else p') I.sub ?_ (λh=>?_)⟩
 ·cases ok
  ·exact .inl ⟨rfl,rfl⟩
  ·exact .inr ⟨rfl,iM,rfl⟩
 ·cases ok
  ·exact h1
  ·exact Vh h1 hv
 ·have:=dm (by simpa using h);simpa using this
theorem Vl (hx:i<A.ar.length):xh W 305 ⟨bc,0,none⟩ 353 354 (Jw q r bc i A px) where
 nV:=λad w=>by kernel_rfl
 nW:=(by kernel_rfl)
 zm:=λad w=>by kernel_rfl
 u1:=(by kernel_rfl)
 ok:=λw L g bad h=>by obtain⟨_,⟨h1,_⟩,_⟩:=Jw.open h;exact h1
 get:=λw L g bad c hc h=>Vi hx hc h
 set:=λw L g bad c v hc hv h=>Vj hx hc hv h
end
end
section
abbrev ct (p:Pr)(ao:Option Addr)(cO tq jq sq:Nat)(k:Wk):List Value :=
 [.string p.title,.slice ao p.ops.length cO,pt tq,pt jq,pt sq,.bool k.busy,.int .i64 k.jb,.int .i64 k.je,.int .i64 k.x,.int .i64 k.done,.bool k.l4]
section
variable {W w:World}{L:List SP}{tq jq sq r wb i kk cO:Nat}{ao:Option Addr}{A:Sn}{T:Tr}{J:Js}{k:Wk}{p:Pr}{x:Br}{px:aC}
theorem IV (I:V W w (aa wb 247 (ct p ao cO tq jq sq k)::L)) :
   Calls prog 184 #[pt wb] w λe w'=>e=.returned (.bool k.busy)∧V W w' (aa wb 247 (ct p ao cO tq jq sq k)::L):=by
 refine EN func184 ntmps184 rfl rfl λa E=>?_;refine RN 6 E I λa E=>?_;replace E:=E.eo 5;refine RT 6 E I ?_;exact⟨rfl,I⟩
theorem xm (I:V W w (aa wb 247 (ct p ao cO tq jq sq k)::aw sq r A::L))(hb:k.busy=true) :
   Calls prog 145 #[pt wb] w λe w'=>e=.returned (.bool true)∧V W w' (aa wb 247 (ct p ao cO tq jq sq { k with busy:=false })::aw sq r (A.et k.x)::L):=by
 refine EN func145 ntmps145 rfl rfl λa E=>?_;refine CL 5 E I (IV I) λa w E I=>?_;rw[hb]at E;refine RN 1 E I λa E=>?_;replace E:=E.aN 5;refine bL 2 [7] [0,1,2,4,5,6,3003,1007,1008] E I λa w E I hH U=>?_;refine RH 8 E I hH U λa E=>?_;refine bd 0 E I (zc (I.store sq)) λv a w E I=>?_;refine ST 4 E I (λa w E I=>?_) (hlt:=(by simp[ct]));change V W w (aa wb 247 (ct p ao cO tq jq sq { k with busy:=false })::_) at I;refine RT 2 E I ?_;exact⟨rfl,I.sub⟩
theorem IW (I:V W w (aa wb 247 (ct p ao cO tq jq sq k)::L))(hb:k.busy=false) :
   Calls prog 145 #[pt wb] w λe w'=>e=.returned (.bool false)∧V W w' (aa wb 247 (ct p ao cO tq jq sq k)::L):=by
 refine EN func145 ntmps145 rfl rfl λa E=>?_;refine CL 5 E I (IV I) λa w E I=>?_;rw[hb]at E;refine RN 1 E I λa E=>?_;replace E:=E.eo 5;refine RT 3 E I ?_;exact⟨rfl,I⟩
theorem zo {id:Int}(I:V W w (Tree tq sq T::L)) :
   Calls prog 143 #[pt tq,.int .i64 id] w λe w'=>∃ (x:Br) (ad:Option Addr) (c:Nat) (ok:Bool),e=.returned (.tuple #[.agg (b6 x ad c).toArray,.bool ok])∧((ok=true∧x∈T.l∧(x.id:Int)=id)∨(ok=false∧∀ y∈T.l,(y.id:Int)≠id)) ∧
    V W w' (b0 ad x.ak.length c x.ak::Tree tq sq T::L):=by
 by_cases h:∃ x∈T.l,(x.id:Int)=id
 ·obtain⟨x,hx,rfl⟩:=h;obtain⟨k,hk⟩:=jH.1 hx;exact (wX I hk).mono λe w' ⟨ad,c,h1,I⟩=>⟨x,ad,c,true,h1,.inl ⟨rfl,hx,rfl⟩,I⟩
 ·have hn:∀ y∈T.l,(y.id:Int)≠id:=λy hy e=>h ⟨y,hy,e⟩;exact (TB I hn).mono λe w' ⟨h1,I⟩=>⟨⟨0,0,[],0,0⟩,none,0,false,h1,.inr ⟨rfl,hn⟩,b0.nil I⟩
theorem Vm {id:Nat}(I:V W w (aw sq r A::L))(hx:A.ar[i]?=some px)(bU:px.id=id)(hb:A.n+1<1099511627776) :
   Calls prog 181 #[pt sq,.int .i64 id] w λe w'=>e=.returned (.tuple #[.int .i64 ((A.last+1:Nat):Int),.bool true])∧V W w' (aw sq r (A.add px.g px.p)::L):=by
 subst bU;exact HX I hx hb
theorem Vn {d:Nat}{id:Nat}(I:V W w (Tree tq sq T::aw sq r A::L))(hx:T.l[kk]?=some x)(kb:d≤x.ak.length)(hp:A.ar[i]?=some px)(bU:px.id=id) :
   Calls prog 186 #[pt tq,.int .i64 x.id,.int .i64 d,.int .i64 id] w λe w'=>e=.returned (.bool (decide (x.done<d))) ∧
    ((x.done<d∧V W w' (Tree tq sq (T.iv kk x d id)::aw sq r (A.et x.snap)::L))∨(d≤x.done∧V W w' (Tree tq sq T::aw sq r A::L))):=by
 subst bU;by_cases h:x.done<d
 ·exact (TK I hx h kb hp).mono λe w' ⟨h1,I⟩=>⟨by rw[h1,dd h],.inl ⟨h,I⟩⟩
 ·exact (TH (d:=(d:Int)) (i:=i) (px:=px) I hx (.inl (by omega))).mono λe w' ⟨h1,I⟩=>⟨by rw[h1,bq h],.inr ⟨by omega,I⟩⟩
theorem Vo {A:Sn}{i:Nat}{px:aC}{g:Nat→Int}{p':Nat→Nat}(hA:WF A)(hB:WF { A with ar:=A.ar.set i ⟨px.id,px.refs,g,p'⟩ })(hi:A.ar[i]?=some px)(hr:px.refs=1) :
   ({ A with ar:=A.ar.set i ⟨px.id,px.refs,g,p'⟩ }:Sn).et px.id=A.et px.id:=by
 have hl:=(a1.1 hi).1;rw[w2 hA hi,w2 (px:=⟨px.id,px.refs,g,p'⟩) hB (i:=i) (by simp[hl])];simp[Sn.drop,hr,eraseIdx_set_eq]
theorem Vp (I:V W w (aa wb 247 (ct p ao cO tq jq sq k)::Tree tq sq T::aw sq r A::bC jq J::L))(hb:k.busy=false)(Vq:∀ x∈T.l,∃ (i:Nat) (px:aC),A.ar[i]?=some px∧px.id=x.snap)(hn:A.n+1<1099511627776) :
   Calls prog 142 #[pt wb] w λe w'=>∃ (z:Bool) (A':Sn) (J':Js) (k':Wk),e=.returned (.bool z)∧kW p A T J k z A' T J' k' ∧
    V W w' (aa wb 247 (ct p ao cO tq jq sq k')::Tree tq sq T::aw sq r A'::bC jq J'::L):=by
 refine EN func142 ntmps142 rfl rfl λa E=>?_;refine CL 7 E I (Ui (I.tw jq)) λa w E I=>?_;refine AL 3 E I λb3 a w E I=>?_;refine SA 0 E I λa w E I=>?_;refine IF 5 E I (λaj a E=>?_) λaj a E=>?_
 ·
  obtain rfl:J=[]:=by simpa using aj
  change V W w (aa b3 245 [.int .i64 0,.int .i64 0]::bC jq []::_) at I;refine RT 2 E I ?_;exact⟨false,A,[],k,rfl,.idle hb rfl,I.sub⟩
 obtain⟨j,J',rfl⟩:∃ j J',J=j::J':=by
  cases J with
  | nil=>simp at aj
  | cons j J'=>exact⟨j,J',rfl⟩
 change V W w (aa b3 245 [.int .i64 j.1,.int .i64 j.2]::bC jq J'::_) at I;replace E:=E.ab [0,3];clear aj;refine RN 0 E I λa E=>?_;refine bZ (M:=λa w=>∃ (b5:Nat) (x:Br) (ad:Option Addr) (c:Nat) (ok:Bool),((ok=true∧x∈T.l∧(x.id:Int)=j.1)∨(ok=false∧∀ y∈T.l,(y.id:Int)≠j.1))∧Fr a 85 [(0,pt wb),(3,pt b3),(5,pt b5),(6,.bool ok)]∧V W w (aa b5 238 (b6 x ad c)::aa b3 245 [.int .i64 j.1,.int .i64 j.2]::bC jq J'::aa wb 247 (ct p ao cO tq jq sq k)::Tree tq sq T::aw sq r A::L)) ?_ ?_
 ·
  refine aY 0 (λw0 w'=>Rd w' wb 0 (ct p ao cO tq jq sq k)∧Rd w' b3 0 [.int .i64 j.1,.int .i64 j.2]) [5,10] [0,1,2,4,3003,3005,2006,7,8,9,1010,1011,12] E I λa w E I hH=>?_;have U:=hH.at w (And.intro I.ai I.ai);refine RH 4 E I hH U λa E=>?_;refine QH E (λw hc=>ag E (hc.1 2 _ rfl)) U λa E=>?_;refine QH E (λw hc=>ag E (hc.2 0 _ rfl)) U λa E=>?_;refine RH 0 E I hH U λa E=>?_;refine DN [(6,[7,8,9,1010,1011,12]),(10,[1006,7,8,9,1011,12])] (by kernel_rfl) rfl ⟨⟨_,rfl,?_⟩,⟨_,rfl,?_⟩,trivial⟩
  ·
   refine RH 0 E I hH U λa E=>?_;refine jE 0 E I (zo (id:=j.1) (I.tree tq)) ?_;clear E I;rintro e w ⟨x,ad,c,ok,rfl,dm,I⟩;refine⟨_,rfl,λa E=>?_⟩;refine RN 3 E I λa E=>?_;refine eS E rfl I Ty.t238 rfl λb5 a w E I ho=>?_;clear ho;replace U:=hH.at w (And.intro I.ai I.ai);refine RH 0 E I hH U λa E=>?_;refine SA 0 E I λa w E I=>?_;refine RN 1 E I λa E=>?_;exact⟨_,x,ad,c,ok,dm,E.ab [0,3,5,6],I.sub⟩
  refine RH 0 E I hH U λa E=>?_;refine eS E rfl I Ty.t238 rfl λb5 a w E I ho=>?_;clear ho;replace U:=hH.at w (And.intro I.ai I.ai);refine RH 0 E I hH U λa E=>?_;refine jE 0 E I (zo (id:=j.1) (I.tree tq)) ?_;clear E I;rintro e w ⟨x,ad,c,ok,rfl,dm,I⟩;refine⟨_,rfl,λa E=>?_⟩;refine SA 3 E I λa w E I=>?_;refine RN 1 E I λa E=>?_;exact⟨_,x,ad,c,ok,dm,E.ab [0,3,5,6],I.sub⟩
 clear E;(try clear I);rintro a w ⟨b5,x,ad,c,ok,dm,E,I⟩;refine aY 2 (λw0 w'=>Rd w' wb 0 (ct p ao cO tq jq sq k)∧Rd w' b3 0 [.int .i64 j.1,.int .i64 j.2]∧Rd w' b5 0 (b6 x ad c)) [5,6,16,17] [0,2,3,4,3001,1005,1006,7,8,9,10,11,12,13,15,3014,1016,1017,18,19] E I λa w E I hH=>?_;have U:=hH.at w ⟨I.ai,I.ai,I.ai⟩;refine RH 4 E I hH U λa E=>?_;refine QH E (λw hc=>ag E (hc.2.1 1 _ rfl)) U λa E=>?_;refine RH 1 E I hH U λa E=>?_;refine CL 0 E I (y9 (I.tree tq)) λa w E I=>?_;replace U:=hH.at w ⟨I.ai,I.ai,I.ai⟩;refine RH 2 E I hH U λa E=>?_;refine E.by (s:=36) (λfb E=>?_) (λfb E=>?_)
 ·
  refine RH 11 E I hH U λa E=>?_;refine RT 3 E I ?_;exact⟨true,A,J',k,rfl,.w6 hb rfl (.inl fb),I.sub⟩
 refine RH 4 E I hH U λa E=>?_;refine E.by (s:=40) (λhS E=>?_) (λhS E=>?_)
 ·
  have bQ:∀ y∈T.l,(y.id:Int)≠j.1:=by
   rcases dm with ⟨h,_⟩ | ⟨_,h⟩
   ·rw[h]at hS;cases hS
   ·exact h
  refine RH 7 E I hH U λa E=>?_;refine RT 3 E I ?_;exact⟨true,A,J',k,rfl,.w6 hb rfl (.inr (.inl bQ)),I.sub⟩
 obtain⟨hx,bU⟩:x∈T.l∧(x.id:Int)=j.1:=by
  rcases dm with ⟨_,h⟩ | ⟨h,_⟩
  ·exact h
  ·rw[h]at hS;cases hS
 refine RH 2 E I hH U λa E=>?_;refine QH E (λw hc=>ag E (hc.2.2 3 _ rfl)) U λa E=>?_;refine RH 0 E I hH U λa E=>?_;refine bz E (cW E rfl (s:=40)) (ag E (U.2.2 2 _ rfl)) rfl λa E=>?_;refine RH 3 E I hH U λa E=>?_;refine IF 0 E I (λan a E=>?_) λan a E=>?_
 ·
  refine RT 2 E I ?_;exact⟨true,A,J',k,rfl,.w6 hb rfl (.inr (.inr ⟨x,hx,bU,by omega⟩)),I.sub⟩
 refine RN 1 E I λa E=>?_;obtain⟨i,px,ha,kE⟩:=Vq x hx;refine aY 0 (λw0 w'=>Rd w' wb 0 (ct p ao cO tq jq sq k)∧Rd w' b5 0 (b6 x ad c)) [5] [0,1,2,4,3003,1005,1006,7,8,9,10,11] E I λa w E I hH=>?_;have U:=hH.at w ⟨I.ai,I.ai⟩;refine RH 4 E I hH U λa E=>?_;refine QH E (λw hc=>ag E (hc.1 4 _ rfl)) U λa E=>?_;refine RH 0 E I hH U λa E=>?_;refine SS E (ag E (U.2 4 _ rfl)) λa E=>?_;refine RH 0 E I hH U λa E=>?_;refine CL 0 E I (Vm (I.store sq) ha kE hn) λa w E I=>?_;refine RN 5 E I λa E=>?_;refine RN 4 E I λa E=>?_;replace E:=E.aN 59;refine aY 2 (λw0 w'=>Rd w' b3 0 [.int .i64 j.1,.int .i64 j.2]∧Rd w' b5 0 (b6 x ad c)) [8,11,12,13,14,15,16,17] [0,1,2,3,4,6,7,9,10,3005,3008,1011,1012,1013,1014,1015,1016,1017,18,19,1020,21,22,1023] E I λa w E I hH=>?_;have U:=hH.at w ⟨I.ai,I.ai⟩;refine RH 9 E I hH U λa E=>?_;refine QH E (λw hc=>bO E underlying245 rfl Ty.t245 (hc.1)) U λa E=>?_;refine QH E (λw hc=>ag E (hc.2 3 _ rfl)) U λa E=>?_;refine RH 0 E I hH U λa E=>?_;refine ST 0 E I (λa w E I=>?_) (hlt:=(by simp[ct]));replace U:=hH.at w ⟨I.ai,I.ai⟩;refine RH 2 E I hH U λa E=>?_;refine qj E rfl I Ty.t245 (by simp[Value.oneCell']) (by simp[ct]) λa w E I=>?_;replace U:=hH.at w ⟨I.ai,I.ai⟩;refine RH 2 E I hH U λa E=>?_;refine ST 0 E I (λa w E I=>?_) (hlt:=(by simp[ct,cC]));replace U:=hH.at w ⟨I.ai,I.ai⟩;refine RH 2 E I hH U λa E=>?_;refine ST 0 E I (λa w E I=>?_) (hlt:=(by simp[ct,cC]));refine ST 2 E I (λa w E I=>?_) (hlt:=(by simp[ct,cC]));refine RN 0 E I λa E=>?_;change V W w (aa wb 247 (ct p ao cO tq jq sq ⟨true,j.1,j.2,A.last+1,x.done,false⟩)::_) at I;refine RT 2 E I ?_;exact⟨true,A.add px.g px.p,J',⟨true,j.1,j.2,A.last+1,x.done,false⟩,rfl,.CC hb rfl fb hx bU (by omega) ha kE,I.sub⟩
theorem Vr {ad:Option Addr}{c:Nat}(I:V W w (aa wb 247 (ct p ao cO tq jq sq k)::b0 ad x.ak.length c x.ak::Tree tq sq T::aw sq r A::bC jq J::aA W p ao cO::L))
   (hb:k.busy=true) (he:k.je=T.epoch) (hx:x∈T.l) (bU:(x.id:Int)=k.jb) (eE:k.l4=false) (hi:A.ar[i]?=some px) (xn:px.id=k.x) (hr:px.refs=1) (hg:dP px.g) (hd:k.done<x.ak.length) (hf:0≤x.frm∧x.frm≤1099511627776)
   (aZ:dj p) (aE:p.title.size≤1000000000) (kf:J.length≤16) :
   Calls prog 146 #[pt wb,.agg (b6 x ad c).toArray] w λe w'=>∃ (A':Sn) (J':Js) (k':Wk),e=.returned (.tuple #[])∧kW p A T J k true A' T J' k' ∧
    V W w' (aa wb 247 (ct p ao cO tq jq sq k')::Tree tq sq T::aw sq r A'::bC jq J'::aA W p ao cO::L):=by
 have kF:=Tree.wt (I.tree tq);have hA:=(aw.facts (I.store sq)).1;have zp:=(kF.ok x hx).1;have aJ:=(a1.1 hi).1;have l5:x.ak.length≤65536:=zp.1;refine EN func146 ntmps146 rfl rfl λa E=>?_;refine BX 1 E I λb3 a w E I=>?_;change V W w (aa b3 238 (b6 x ad c)::_) at I;refine bL 1 [7] [0,1,2,4,5,6,3003,1007,8,1009,10] E I λa w E I hH U=>?_;refine RH 9 E I hH U λa E=>?_;refine gF E rfl I rfl λbV a w E I ho=>?_;replace U:=U.trans ho;clear ho;change V W w (aa bV 307 [pt sq,.int .i64 k.x,.bool false]::_) at I;refine RH 1 E I hH U λa E=>?_;refine RN 1 E I λa E=>?_;obtain⟨zs,hz,iR,I⟩:=b0.open (I.pick (b0 ad x.ak.length c x.ak));obtain⟨bb,oo,rfl,cK⟩:=I.drew.bY ad (by omega);have Vs:zs.length=x.ak.length:=by rw[← hz,bf]
 have IX:zs[k.done]?=some (zs[k.done]'(by omega)):=aO (by omega);have IY:x.ak[k.done]?=some (zs[k.done]'(by omega)).2.2:=by rw[← hz,bn,IX];rfl
 have lT:=cK k.done _ (by rw[bn,IX];rfl);have vo:Rd w.drew wb 0 (ct p ao cO tq jq sq k):=I.drew.ai;have kY:Rd w.drew wb 0 (bJ p ao cO):=vo.part 0 2;have IZ:Rd w.drew b3 0 (b6 x (some ⟨bb,oo,none⟩) c):=I.drew.ai;have Vt:(zs[k.done]'(by omega)).2.2.length≤1099511627776:=zp.2 _ (bE IY);refine qv 0 (λw'=>Rd w' wb 0 (ct p ao cO tq jq sq k)∧Rd w' wb 0 (bJ p ao cO)∧Rd w' b3 0 (b6 x (some ⟨bb,oo,none⟩) c)∧w'.cell? ⟨bb,oo+k.done,none⟩=some (aI (zs[k.done]'(by omega)))) [5,7,11,12,14,18,19,20] [0,1,2,4,6,8,9,10,13,15,16,17,3003,3007,3011,3012,3014,3018,3019,3020,1005,1021] E I λa E=>?_;replace I:=I.drew;generalize w.drew=w at I lT vo kY IZ ⊢;have U:=And.intro vo (And.intro kY (And.intro IZ lT));have hH:=Hd.any (λw'=>Rd w' wb 0 (ct p ao cO tq jq sq k)∧Rd w' wb 0 (bJ p ao cO)∧Rd w' b3 0 (b6 x (some ⟨bb,oo,none⟩) c)∧w'.cell? ⟨bb,oo+k.done,none⟩=some (aI (zs[k.done]'(by omega))));refine RH 12 E I hH U λa E=>?_;refine QH E (λw hc=>bO E underlying45 rfl Ty.t45 (hc.2.1)) U λa E=>?_;refine QH E (λw hc=>ag E (hc.2.2.1 1 _ rfl)) U λa E=>?_;refine QH E (λw hc=>ag E (hc.1 9 _ rfl)) U λa E=>?_;refine RH 1 E I hH U λa E=>?_;refine QH E (λw hc=>ag E (hc.2.2.1 2 _ rfl)) U λa E=>?_;refine QH E (λw hc=>ag E (hc.1 9 _ rfl)) U λa E=>?_;refine RH 1 E I hH U λa E=>?_;refine QH E (λw hc=>ag E (hc.2.2.2)) U λa E=>?_;refine RH 1 E I hH U λa E=>?_;have dy:V W w (aw sq r { A with ar:=A.ar.set i ⟨px.id,px.refs,px.g,px.p⟩ }::aa bV 307 [pt sq,.int .i64 k.x,.bool false]::aA W p ao cO::Sl 22 1 (some ⟨bb,oo,none⟩) x.ak.length c (zs.map aI)::ah a7 zs::aa wb 247 (ct p ao cO tq jq sq k)::aa b3 238 (b6 x (some ⟨bb,oo,none⟩) c)::Tree tq sq T::bC jq J::L):=by
  rw[show ({ A with ar:=A.ar.set i ⟨px.id,px.refs,px.g,px.p⟩ }:Sn)=A from by rw[← wW hi]];exact I.sub
 rw[← xn]at dy;have ti:=Jw.close (i:=i) (A:=A) (px:=px) (g:=px.g) (bad:=false) (p':=px.p) (dy.sub (M:=aa bV 307 [pt sq,.int .i64 px.id,.bool false]::aw sq r { A with ar:=A.ar.set i ⟨px.id,px.refs,px.g,px.p⟩ }::aA W p ao cO::Sl 22 1 (some ⟨bb,oo,none⟩) x.ak.length c (zs.map aI)::ah a7 zs::aa wb 247 (ct p ao cO tq jq sq k)::aa b3 238 (b6 x (some ⟨bb,oo,none⟩) c)::Tree tq sq T::bC jq J::L)) hg (λh=>by cases h);refine jD 0 E I (IS (M:=Vl (W:=W) (q:=sq) (r:=r) (bc:=bV) (A:=A) (px:=px) (i:=i) aJ) ti aZ aE Vt (λw' h=>(V.lS (h.sub (M:=Sl 22 1 (some ⟨bb,oo,none⟩) x.ak.length c (zs.map aI)::ah a7 zs::[]))).2 _ (getElem_mem _))) λmA zn se a w E ⟨nZ,I⟩=>?_;obtain⟨p2,⟨bw,Vu⟩,I⟩:=Jw.open I;have vp:=(aw.facts (I.store sq)).1;refine RN 0 E I λa E=>?_;refine IF 6 E I (λaj a E=>?_) λaj a E=>?_
 ·
  refine CL 2 E I (xm (L:=Tree tq sq T::bC jq J::aA W p ao cO::L) (I.sub (M:=aa wb 247 (ct p ao cO tq jq sq k)::aw sq r { A with ar:=A.ar.set i ⟨px.id,px.refs,mA,p2⟩ }::Tree tq sq T::bC jq J::aA W p ao cO::L)) hb) λa w E I=>?_;refine RN 0 E I λa E=>?_;have vq:Rd w wb 6 [.int .i64 k.jb,.int .i64 k.je]:=(I.ai (b:=wb)).part 6 2;refine aY 1 (λw0 w'=>Rd w' wb 0 (ct p ao cO tq jq sq { k with busy:=false })∧Rd w' wb 6 [.int .i64 k.jb,.int .i64 k.je]) [7] [0,1,2,4,5,6,3003,1007,1008] E I λa w E I hH=>?_;replace vq:Rd w wb 6 [.int .i64 k.jb,.int .i64 k.je]:=(I.ai (b:=wb)).part 6 2;have U:=hH.at w ⟨I.ai,vq⟩;refine RH 6 E I hH U λa E=>?_;refine QH E (λw hc=>ag E (hc.1 3 _ rfl)) U λa E=>?_;refine RH 0 E I hH U λa E=>?_;refine SS E (bO E underlying245 rfl Ty.t245 (U.2)) λa E=>?_;refine RH 0 E I hH U λa E=>?_;refine CL 0 E I (ze (I.tw jq) kf) λa w E I=>?_;change V W w (bC jq (lu J k.jb k.je)::_) at I;refine RT 0 E I ?_;refine⟨A.et k.x,lu J k.jb k.je,{ k with busy:=false },rfl,.failed hb he hx bU eE (Vu aj),?_⟩;rw[← xn,Vo hA vp hi hr] at *;exact I.sub
 refine ST 3 E I (λa w E I=>?_) (hlt:=(by simp[ct]));change V W w (aa wb 247 (ct p ao cO tq jq sq { k with l4:=true })::_) at I;refine RT 0 E I ?_;obtain⟨_,m7⟩:=nZ aj;subst m7;exact⟨_,J,{ k with l4:=true },rfl,.l4 (p':=p2) hb he hx bU eE hi xn IY bw,I.sub⟩
theorem Vv {ad:Option Addr}{c:Nat}(I:V W w (aa wb 247 (ct p ao cO tq jq sq k)::Tree tq sq T::aw sq r A::bC jq J::L))
   (hb:k.busy=true) (he:k.je=T.epoch) (hx:T.l[kk]?=some x) (bU:(x.id:Int)=k.jb) (eE:k.l4=true) (hi:A.ar[i]?=some px) (xn:px.id=k.x) (hd:k.done<x.ak.length) (kf:J.length≤16) :
   Calls prog 147 #[pt wb,.agg (b6 x ad c).toArray] w λe w'=>∃ (A':Sn) (T':Tr) (J':Js) (k':Wk),e=.returned (.tuple #[])∧kW p A T J k true A' T' J' k' ∧
    V W w' (aa wb 247 (ct p ao cO tq jq sq k')::Tree tq sq T'::aw sq r A'::bC jq J'::L):=by
 have kF:=Tree.wt (I.tree tq);have eG:=bE hx;have eK:=(a1.1 hx).1;have zp:=(kF.ok x eG).1;have l5:x.ak.length≤65536:=zp.1;refine EN func147 ntmps147 rfl rfl λa E=>?_;refine BX 1 E I λb3 a w E I=>?_;change V W w (aa b3 238 (b6 x ad c)::_) at I;refine aY 2 (λw0 w'=>Rd w' wb 0 (ct p ao cO tq jq sq k)∧Rd w' b3 0 (b6 x ad c)) [5,9,10,14] [0,1,2,4,6,7,8,11,12,13,3003,3005,3009,3010,1014,1015] E I λa w E I hH=>?_;have U:=hH.at w ⟨I.ai,I.ai⟩;refine RH 10 E I hH U λa E=>?_;refine QH E (λw hc=>ag E (hc.1 2 _ rfl)) U λa E=>?_;refine QH E (λw hc=>ag E (hc.2 0 _ rfl)) U λa E=>?_;refine QH E (λw hc=>ag E (hc.1 9 _ rfl)) U λa E=>?_;refine RH 1 E I hH U λa E=>?_;refine SS E (ag E (U.1 8 _ rfl)) λa E=>?_;refine RH 0 E I hH U λa E=>?_;refine CL 0 E I (Vn (kk:=kk) (d:=k.done+1) (L:=aa wb 247 (ct p ao cO tq jq sq k)::aa b3 238 (b6 x ad c)::bC jq J::L) (I.sub (M:=Tree tq sq T::aw sq r A::aa wb 247 (ct p ao cO tq jq sq k)::aa b3 238 (b6 x ad c)::bC jq J::L)) hx (by omega) hi xn) λa w E I0=>?_;refine RN 0 E (V.start _) λa E=>?_;refine PW 0 E (V.start _) (λaj a E=>?_) λaj a E=>?_
 ·
  have hlt:x.done<k.done+1:=by simpa using aj
  replace I:=(I0.resolve_right (λh=>by omega)).2;refine ST 3 E I (λa w E I=>?_) (hlt:=(by simp[ct]));change V W w (aa wb 247 (ct p ao cO tq jq sq { k with busy:=false })::_) at I;refine CL 2 E I (IW (k:={ k with busy:=false }) I rfl) λa w E I=>?_;refine RN 0 E I λa E=>?_;refine bZ (M:=λa w=>∃ (b4:Nat) (ad2:Option Addr) (c2:Nat),Fr a 55 [(0,pt wb),(4,pt b4),(5,.bool true)]∧V W w (aa b4 238 (b6 { x with done:=k.done+1,snap:=k.x } ad2 c2)::aa wb 247 (ct p ao cO tq jq sq { k with busy:=false })::Tree tq sq (T.iv kk x (k.done+1) k.x)::aw sq r (A.et x.snap)::bC jq J::L)) ?_ ?_
  ·
   refine aY 0 (λw0 w'=>Rd w' wb 0 (ct p ao cO tq jq sq { k with busy:=false })∧Rd w' b3 0 (b6 x ad c)) [5,10] [0,1,2,4,3003,3005,2006,7,8,9,1010,1011,12] E I λa w E I hH=>?_;have U:=hH.at w ⟨I.ai,I.ai⟩;refine RH 4 E I hH U λa E=>?_;refine QH E (λw hc=>ag E (hc.1 2 _ rfl)) U λa E=>?_;refine QH E (λw hc=>ag E (hc.2 0 _ rfl)) U λa E=>?_;refine RH 0 E I hH U λa E=>?_;refine DN [(6,[7,8,9,1010,1011,12]),(10,[1006,7,8,9,1011,12])] (by kernel_rfl) rfl ⟨⟨_,rfl,?_⟩,⟨_,rfl,?_⟩,trivial⟩
   ·
    refine RH 0 E I hH U λa E=>?_;refine a2 0 E I (wX (x:={ x with done:=k.done+1,snap:=k.x }) (k:=kk) (I.tree tq) (by simp[Tr.iv,eK])) λad2 c2 a w E I=>?_;refine RN 3 E I λa E=>?_;refine eS E rfl I Ty.t238 rfl λb4 a w E I ho=>?_;clear ho;replace U:=hH.at w (And.intro I.ai I.ai);refine RH 0 E I hH U λa E=>?_;refine SA 0 E I λa w E I=>?_;refine RN 1 E I λa E=>?_;exact⟨_,ad2,c2,E.ab [0,4,5],I.sub⟩
   refine RH 0 E I hH U λa E=>?_;refine eS E rfl I Ty.t238 rfl λb4 a w E I ho=>?_;clear ho;replace U:=hH.at w (And.intro I.ai I.ai);refine RH 0 E I hH U λa E=>?_;refine a2 0 E I (wX (x:={ x with done:=k.done+1,snap:=k.x }) (k:=kk) (I.tree tq) (by simp[Tr.iv,eK])) λad2 c2 a w E I=>?_;refine SA 3 E I λa w E I=>?_;refine RN 1 E I λa E=>?_;exact⟨_,ad2,c2,E.ab [0,4,5],I.sub⟩
  clear E;(try clear I);rintro a w ⟨b4,ad2,c2,E,I⟩;refine RN 3 E I λa E=>?_;replace E:=E.eo 38;refine IF 7 E I (λan a E=>?_) λan a E=>?_
  ·
   replace an:((k.done+1:Nat):Int)<((x.ak.length:Nat):Int):=an;refine aY 0 (λw0 w'=>Rd w' wb 0 (ct p ao cO tq jq sq { k with busy:=false })∧Rd w' wb 6 [.int .i64 k.jb,.int .i64 k.je]) [7] [0,1,2,4,5,6,3003,1007,1008] E I λa w E I hH=>?_;have vq:Rd w wb 6 [.int .i64 k.jb,.int .i64 k.je]:=(I.ai (b:=wb)).part 6 2;have U:=hH.at w ⟨I.ai,vq⟩;refine RH 6 E I hH U λa E=>?_;refine QH E (λw hc=>ag E (hc.1 3 _ rfl)) U λa E=>?_;refine RH 0 E I hH U λa E=>?_;refine SS E (bO E underlying245 rfl Ty.t245 (U.2)) λa E=>?_;refine RH 0 E I hH U λa E=>?_;refine CL 0 E I (ze (I.tw jq) kf) λa w E I=>?_;change V W w (bC jq (lu J k.jb k.je)::_) at I;refine RT 0 E I ?_;refine⟨_,_,if k.done+1<x.ak.length then lu J k.jb k.je else J,{ k with busy:=false },rfl,.iv (x:=x) (kk:=kk) hb he hx bU eE hlt (by omega),?_⟩;rw[al (by omega)];exact I.sub
  replace an:((x.ak.length:Nat):Int)≤((k.done+1:Nat):Int):=an;refine RT 0 E I ?_;refine⟨_,_,if k.done+1<x.ak.length then lu J k.jb k.je else J,{ k with busy:=false },rfl,.iv (x:=x) (kk:=kk) hb he hx bU eE hlt (by omega),?_⟩;rw[ae (by omega)];exact I.sub
 have hlt:k.done+1≤x.done:=by
  have:=of_decide_eq_false aj;omega
 replace I:=(I0.resolve_left (λh=>by omega)).2;refine CL 2 E I (xm (L:=aa b3 238 (b6 x ad c)::Tree tq sq T::bC jq J::L) (I.sub (M:=aa wb 247 (ct p ao cO tq jq sq k)::aw sq r A::aa b3 238 (b6 x ad c)::Tree tq sq T::bC jq J::L)) hb) λa w E I=>?_;refine RN 0 E I λa E=>?_;refine bZ (M:=λa w=>∃ (b4:Nat) (ad2:Option Addr) (c2:Nat),Fr a 55 [(0,pt wb),(4,pt b4),(5,.bool true)]∧V W w (aa b4 238 (b6 x ad2 c2)::aa wb 247 (ct p ao cO tq jq sq { k with busy:=false })::Tree tq sq T::aw sq r (A.et k.x)::bC jq J::L)) ?_ ?_
 ·
  refine aY 0 (λw0 w'=>Rd w' wb 0 (ct p ao cO tq jq sq { k with busy:=false })∧Rd w' b3 0 (b6 x ad c)) [5,10] [0,1,2,4,3003,3005,2006,7,8,9,1010,1011,12] E I λa w E I hH=>?_;have U:=hH.at w ⟨I.ai,I.ai⟩;refine RH 4 E I hH U λa E=>?_;refine QH E (λw hc=>ag E (hc.1 2 _ rfl)) U λa E=>?_;refine QH E (λw hc=>ag E (hc.2 0 _ rfl)) U λa E=>?_;refine RH 0 E I hH U λa E=>?_;refine DN [(6,[7,8,9,1010,1011,12]),(10,[1006,7,8,9,1011,12])] (by kernel_rfl) rfl ⟨⟨_,rfl,?_⟩,⟨_,rfl,?_⟩,trivial⟩
  ·
   refine RH 0 E I hH U λa E=>?_;refine a2 0 E I (wX (x:=x) (k:=kk) (I.tree tq) hx) λad2 c2 a w E I=>?_;refine RN 3 E I λa E=>?_;refine eS E rfl I Ty.t238 rfl λb4 a w E I ho=>?_;clear ho;replace U:=hH.at w (And.intro I.ai I.ai);refine RH 0 E I hH U λa E=>?_;refine SA 0 E I λa w E I=>?_;refine RN 1 E I λa E=>?_;exact⟨_,ad2,c2,E.ab [0,4,5],I.sub⟩
  refine RH 0 E I hH U λa E=>?_;refine eS E rfl I Ty.t238 rfl λb4 a w E I ho=>?_;clear ho;replace U:=hH.at w (And.intro I.ai I.ai);refine RH 0 E I hH U λa E=>?_;refine a2 0 E I (wX (x:=x) (k:=kk) (I.tree tq) hx) λad2 c2 a w E I=>?_;refine SA 3 E I λa w E I=>?_;refine RN 1 E I λa E=>?_;exact⟨_,ad2,c2,E.ab [0,4,5],I.sub⟩
 clear E;(try clear I);rintro a w ⟨b4,ad2,c2,E,I⟩;refine RN 3 E I λa E=>?_;replace E:=E.eo 38;refine IF 7 E I (λan a E=>?_) λan a E=>?_
 ·
  refine aY 0 (λw0 w'=>Rd w' wb 0 (ct p ao cO tq jq sq { k with busy:=false })∧Rd w' wb 6 [.int .i64 k.jb,.int .i64 k.je]) [7] [0,1,2,4,5,6,3003,1007,1008] E I λa w E I hH=>?_;have vq:Rd w wb 6 [.int .i64 k.jb,.int .i64 k.je]:=(I.ai (b:=wb)).part 6 2;have U:=hH.at w ⟨I.ai,vq⟩;refine RH 6 E I hH U λa E=>?_;refine QH E (λw hc=>ag E (hc.1 3 _ rfl)) U λa E=>?_;refine RH 0 E I hH U λa E=>?_;refine SS E (bO E underlying245 rfl Ty.t245 (U.2)) λa E=>?_;refine RH 0 E I hH U λa E=>?_;refine CL 0 E I (ze (I.tw jq) kf) λa w E I=>?_;change V W w (bC jq (lu J k.jb k.je)::_) at I;refine RT 0 E I ?_;refine⟨_,_,if x.done<x.ak.length then lu J k.jb k.je else J,{ k with busy:=false },rfl,.lost (x:=x) hb he eG bU eE hlt,?_⟩;rw[al (by omega)];exact I.sub
 refine RT 0 E I ?_;refine⟨_,_,if x.done<x.ak.length then lu J k.jb k.je else J,{ k with busy:=false },rfl,.lost (x:=x) hb he eG bU eE hlt,?_⟩;rw[ae (by omega)];exact I.sub
structure I1 (p:Pr)(A:Sn)(T:Tr)(J:Js)(k:Wk):Prop where
 pr:dj p
 sz:p.title.size≤1000000000
 frm:∀ y∈T.l,0≤y.frm∧y.frm≤1099511627776
 gg:∀ x∈T.l,∃ (i:Nat) (px:aC),A.ar[i]?=some px∧px.id=x.snap
 Vw:k.busy=true→(∃ (i:Nat) (px:aC),A.ar[i]?=some px∧px.id=k.x∧px.refs=1∧dP px.g)∧∀ y∈T.l,(y.id:Int)=k.jb→k.done<y.ak.length
 n:A.n+1<1099511627776
 len:J.length≤16
theorem Inv.ready {F:Int}{g0:Nat→Int}{t:Nat→Nat}{base:Nat}{ws:List Wk}(h:Inv p F g0 t base A T ws)(hk:k∈ws)(hF:0≤F∧F≤1099511627776)(hp:dj p)(hz:p.title.size≤1000000000)(hn:A.n+1<1099511627776)(kf:J.length≤16):I1 p A T J k :=
 ⟨hp,hz,λy hy=>by rw[(h.fY y hy).1];exact hF,λx hx=>h.IB hx,λhb=>⟨by
  obtain⟨i,px,h1,h2⟩:=h.Uk hk hb;have h3:=h.ar px (bE h1);exact⟨i,px,h1,h2,h3.1,h3.2⟩,λy hy he=>((h.kX k hk).2 hb y hy he).1⟩,hn,kf⟩
theorem Vx (I:V W w (aa wb 247 (ct p ao cO tq jq sq k)::Tree tq sq T::aw sq r A::bC jq J::aA W p ao cO::L))(hr:I1 p A T J k) :
   Calls prog 102 #[pt wb] w λe w'=>∃ (z:Bool) (A':Sn) (T':Tr) (J':Js) (k':Wk),e=.returned (.bool z)∧kW p A T J k z A' T' J' k' ∧
    V W w' (aa wb 247 (ct p ao cO tq jq sq k')::Tree tq sq T'::aw sq r A'::bC jq J'::aA W p ao cO::L):=by
 refine EN func102 ntmps102 rfl rfl λa E=>?_;refine RN 6 E I λa E=>?_;replace E:=E.aN 6;refine IF 8 E I (λan a E=>?_) λan a E=>?_
 ·
  refine jE 2 E I (Vp (p:=p) I an hr.gg hr.n) ?_;clear E I;rintro e w ⟨z,A',J',k',rfl,tC,I⟩;refine⟨_,rfl,λa E=>?_⟩;refine RT 1 E I ?_;exact⟨z,A',T,J',k',rfl,tC,I⟩
 obtain⟨⟨i,px,ha,kE,aZ,sf⟩,da⟩:=hr.Vw an;refine RN 0 E I λa E=>?_;refine bZ (M:=λa w=>∃ (b3:Nat) (x:Br) (ad:Option Addr) (c:Nat) (ok:Bool),((ok=true∧x∈T.l∧(x.id:Int)=k.jb)∨(ok=false∧∀ y∈T.l,(y.id:Int)≠k.jb))∧Fr a 57 [(0,pt wb),(3,pt b3),(4,.bool ok)]∧V W w (aa b3 238 (b6 x ad c)::b0 ad x.ak.length c x.ak::aa wb 247 (ct p ao cO tq jq sq k)::Tree tq sq T::aw sq r A::bC jq J::aA W p ao cO::L)) ?_ ?_
 ·
  refine aY 0 (λw0 w'=>Rd w' wb 0 (ct p ao cO tq jq sq k)) [8,13] [0,1,2,4,5,6,7,3003,3008,2009,10,11,12,1013,1014,15] E I λa w E I hH=>?_;have U:=hH.at w I.ai;refine RH 7 E I hH U λa E=>?_;refine QH E (λw hc=>ag E (hc 2 _ rfl)) U λa E=>?_;refine QH E (λw hc=>ag E (hc 6 _ rfl)) U λa E=>?_;refine RH 0 E I hH U λa E=>?_;refine DN [(9,[10,11,12,1013,1014,15]),(13,[1009,10,11,12,1014,15])] (by kernel_rfl) rfl ⟨⟨_,rfl,?_⟩,⟨_,rfl,?_⟩,trivial⟩
  ·
   refine RH 0 E I hH U λa E=>?_;refine jE 0 E I (zo (id:=k.jb) (I.tree tq)) ?_;clear E I;rintro e w ⟨x,ad,c,ok,rfl,dm,I⟩;refine⟨_,rfl,λa E=>?_⟩;refine RN 3 E I λa E=>?_;refine eS E rfl I Ty.t238 rfl λb3 a w E I ho=>?_;clear ho;replace U:=hH.at w I.ai;refine RH 0 E I hH U λa E=>?_;refine SA 0 E I λa w E I=>?_;refine RN 1 E I λa E=>?_;exact⟨_,x,ad,c,ok,dm,E.ab [0,3,4],I.sub⟩
  refine RH 0 E I hH U λa E=>?_;refine eS E rfl I Ty.t238 rfl λb3 a w E I ho=>?_;clear ho;replace U:=hH.at w I.ai;refine RH 0 E I hH U λa E=>?_;refine jE 0 E I (zo (id:=k.jb) (I.tree tq)) ?_;clear E I;rintro e w ⟨x,ad,c,ok,rfl,dm,I⟩;refine⟨_,rfl,λa E=>?_⟩;refine SA 3 E I λa w E I=>?_;refine RN 1 E I λa E=>?_;exact⟨_,x,ad,c,ok,dm,E.ab [0,3,4],I.sub⟩
 clear E;(try clear I);rintro a w ⟨b3,x,ad,c,ok,dm,E,I⟩;refine aY 2 (λw0 w'=>Rd w' wb 0 (ct p ao cO tq jq sq k)) [8,9] [0,1,2,3,5,6,7,3004,1008,1009,10,11,12,13,14,15] E I λa w E I hH=>?_;have U:=hH.at w I.ai;refine RH 7 E I hH U λa E=>?_;refine QH E (λw hc=>ag E (hc 7 _ rfl)) U λa E=>?_;refine RH 0 E I hH U λa E=>?_;refine SS E (ag E (U 2 _ rfl)) λa E=>?_;refine RH 0 E I hH U λa E=>?_;refine CL 0 E I (y9 (I.tree tq)) λa w E I=>?_;replace U:=hH.at w I.ai;refine RH 2 E I hH U λa E=>?_;refine E.by (s:=42) (λkA E=>?_) (λkA E=>?_)
 ·
  refine RH 4 E I hH U λa E=>?_;refine CL 2 E I (xm (L:=Tree tq sq T::bC jq J::aA W p ao cO::L) (I.sub (M:=aa wb 247 (ct p ao cO tq jq sq k)::aw sq r A::Tree tq sq T::bC jq J::aA W p ao cO::L)) an) λa w E I=>?_;refine RT 2 E I ?_;exact⟨true,A.et k.x,T,J,{ k with busy:=false },rfl,.gone an (.inl kA),I.sub⟩
 refine RH 4 E I hH U λa E=>?_;refine IF 0 E I (λay a E=>?_) λay a E=>?_
 ·
  have bQ:∀ y∈T.l,(y.id:Int)≠k.jb:=by
   rcases dm with ⟨h,_⟩ | ⟨_,h⟩
   ·rw[h]at ay;cases ay
   ·exact h
  refine CL 1 E I (xm (L:=Tree tq sq T::bC jq J::aA W p ao cO::L) (I.sub (M:=aa wb 247 (ct p ao cO tq jq sq k)::aw sq r A::Tree tq sq T::bC jq J::aA W p ao cO::L)) an) λa w E I=>?_;refine RT 2 E I ?_;exact⟨true,A.et k.x,T,J,{ k with busy:=false },rfl,.gone an (.inr bQ),I.sub⟩
 obtain⟨hx,bU⟩:x∈T.l∧(x.id:Int)=k.jb:=by
  rcases dm with ⟨_,h⟩ | ⟨h,_⟩
  ·exact h
  ·rw[h]at ay;cases ay
 refine IF 7 E I (λbg a E=>?_) λbg a E=>?_
 ·
  refine jD 2 E I (Vr (I.sub (M:=aa wb 247 (ct p ao cO tq jq sq k)::b0 ad x.ak.length c x.ak::Tree tq sq T::aw sq r A::bC jq J::aA W p ao cO::L)) an kA hx bU bg ha kE aZ sf (da x hx bU) (hr.frm x hx) hr.pr hr.sz hr.len) λA' J' k' a w E ⟨tC,I⟩=>?_;refine RT 2 E I ?_;exact⟨true,A',T,J',k',rfl,tC,I⟩
 obtain⟨kk,jG⟩:=jH.1 hx;refine jE 2 E I (Vv (p:=p) (L:=aA W p ao cO::L) (I.sub (M:=aa wb 247 (ct p ao cO tq jq sq k)::Tree tq sq T::aw sq r A::bC jq J::aA W p ao cO::L)) an kA jG bU bg ha kE (da x hx bU) hr.len) ?_;clear E I;rintro e w ⟨A',T',J',k',rfl,tC,I⟩;refine⟨_,rfl,λa E=>?_⟩;refine RT 2 E I ?_;exact⟨true,A',T',J',k',rfl,tC,I⟩
end
end
section
theorem C4 {s:ByteArray}{j:Nat}(h:j<s.size):s.get! j=s[j]'h:=by
 have h2:j<s.data.size:=h;show s.data[j]! = s.data[j];rw[getElem!_pos s.data j h2]
theorem I2 {s:ByteArray}{j:Nat}(h:s.size≤j):s.get! j=0:=by
 have h2:¬ j<s.data.size:=Nat.not_lt.2 h;show s.data[j]! = 0;rw[getElem!_neg s.data j h2];rfl
theorem qM (s:ByteArray)(p:Nat):(s.extract p s.size).size=s.size-p:=by simp[ByteArray.size_extract]
theorem Vy (s:ByteArray)(p k:Nat):(s.extract p s.size).get! k=s.get! (p+k):=by
 by_cases h:p+k<s.size
 ·have h2:k<(s.extract p s.size).size:=by rw[qM];omega
  rw[C4 h2,C4 h,ByteArray.getElem_extract]
 ·rw[I2 (by rw[qM];omega),I2 (by omega)]
theorem Vz (s:ByteArray)(p:Nat):Utf8.decode (s.extract p s.size) 0=Utf8.decode s p:=by
 have hc:∀ k,decide (k<s.size-p)=decide (p+k<s.size):=λk=>by
  by_cases h:p+k<s.size
  ·rw[dd h,dd (by omega)]
  ·rw[bq h,bq (by omega)]
 simp only[Utf8.decode,Vy,qM,hc,Nat.zero_add,Nat.add_assoc]
theorem C5 (s:ByteArray)(p n:Nat):(s.extract p s.size).extract n (s.extract p s.size).size=s.extract (p+n) s.size:=by
 rw[qM,ByteArray.extract_extract]
 congr 1
 omega
def C6 (b n low r:Nat):Prop:=(b=192+r∧r<32∧n=2∧low=128)∨(b=224+r∧r<16∧n=3∧low=2048)∨(b=240+r∧r<8∧n=4∧low=65536)
def jQ (s:ByteArray)(j:Nat):Nat:=(s.get! j).toNat
def fZ (s:ByteArray)(r:Nat):Nat→Nat
 | 0=>r
 | j+1=>fZ s r j*64+jQ s (j+1)%64
theorem C7 (s:ByteArray)(j:Nat):jQ s j<256:=(s.get! j).toNat_lt
theorem C8 {s:ByteArray}{r:Nat}(h:r<32):∀ j,fZ s r j<32*64 ^ j
 | 0=>by simpa [fZ] using h
 | j+1=>by
  have:=C8 (s:=s) h j;rw[fZ,Nat.pow_succ];omega
def zq (low r:Nat):Prop:=r<low∨1114111<r∨(55296≤r∧r<57344)
section
variable {s:ByteArray}{b n low r:Nat}
theorem VA (hb:jQ s 0=b)(h:b<128):Utf8.decode s 0=(b,1):=by
 simp only[jQ]at hb;simp[Utf8.decode,hb,h]
theorem sg (hb:jQ s 0=b)(h1:128≤b)(h2:b<192∨248≤b):Utf8.decode s 0=(0xFFFD,1):=by
 have:=C7 s 0;simp only[jQ]at hb this;have e1:¬ b<128:=by omega
 have e2:(b/32==6)=false:=by rw[lp];omega
 have e3:(b/16==14)=false:=by rw[lp];omega
 have iQ:(b/8==30)=false:=by rw[lp];omega
 simp[Utf8.decode,hb,e1,e2,e3,iQ,Utf8.runeError]
theorem C9 (hb:jQ s 0=b)(hd:C6 b n low r)(h:s.size<n∨∃ k,1≤k∧k<n∧jQ s k/64≠2):Utf8.decode s 0=(0xFFFD,1):=by
 have hc:∃ k,1≤k∧k<n∧(decide (k<s.size)&&jQ s k/64==2)=false:=by
  rcases h with h | ⟨k,h1,h2,h3⟩
  ·rcases Nat.eq_zero_or_pos s.size with h0 | h0
   ·exact⟨1,by omega,by rcases hd with h | h | h <;> omega,by rw[bq (by omega),Bool.false_and]⟩
   ·exact⟨s.size,by omega,h,by rw[bq (by omega),Bool.false_and]⟩
  ·exact⟨k,h1,h2,by rw[lp.2 h3,Bool.and_false]⟩
 obtain⟨k,h1,h2,h3⟩:=hc;simp only[jQ]at hb h3;rcases hd with ⟨rfl,h4,rfl,rfl⟩ | ⟨rfl,h4,rfl,rfl⟩ | ⟨rfl,h4,rfl,rfl⟩
 ·have e1:¬ 192+r<128:=by omega
  have e2:((192+r)/32==6)=true:=by rw[beq_iff_eq];omega
  have e3:((192+r)/16==14)=false:=by rw[lp];omega
  have iQ:((192+r)/8==30)=false:=by rw[lp];omega
  obtain rfl:k=1:=by omega
  simp only[Utf8.decode,Nat.zero_add,hb,e1,e2,e3,iQ,h3,Utf8.runeError];simp
 ·have e1:¬ 224+r<128:=by omega
  have e2:((224+r)/32==6)=false:=by rw[lp];omega
  have e3:((224+r)/16==14)=true:=by rw[beq_iff_eq];omega
  have iQ:((224+r)/8==30)=false:=by rw[lp];omega
  have hk:k=1∨k=2:=by omega
  rcases hk with rfl | rfl
  all_goals
   simp only[Utf8.decode,Nat.zero_add,hb,e1,e2,e3,iQ,h3,Utf8.runeError];simp
 ·have e1:¬ 240+r<128:=by omega
  have e2:((240+r)/32==6)=false:=by rw[lp];omega
  have e3:((240+r)/16==14)=false:=by rw[lp];omega
  have iQ:((240+r)/8==30)=true:=by rw[beq_iff_eq];omega
  have hk:k=1∨k=2∨k=3:=by omega
  rcases hk with rfl | rfl | rfl
  all_goals
   simp only[Utf8.decode,Nat.zero_add,hb,e1,e2,e3,iQ,h3,Utf8.runeError];simp
theorem VB (hb:jQ s 0=b)(hd:C6 b n low r)(I:n≤s.size)(h:∀ k,1≤k→k<n→jQ s k/64=2) :
   (zq low (fZ s r (n-1))→Utf8.decode s 0=(0xFFFD,1))∧(¬ zq low (fZ s r (n-1))→Utf8.decode s 0=(fZ s r (n-1),n)):=by
 simp only[zq];have hc:∀ k,1≤k→k<n→(decide (k<s.size)&&(s.get! k).toNat/64==2)=true:=λk h1 h2=>by
  rw[dd (by omega),Bool.true_and,beq_iff_eq];exact h k h1 h2
 have hlt:=C8 (s:=s) (r:=r) (by rcases hd with h | h | h <;> omega) (n-1);simp only[jQ]at hb;rcases hd with ⟨rfl,h4,rfl,rfl⟩ | ⟨rfl,h4,rfl,rfl⟩ | ⟨rfl,h4,rfl,rfl⟩
 ·have e1:¬ 192+r<128:=by omega
  have e2:((192+r)/32==6)=true:=by rw[beq_iff_eq];omega
  have sh:fZ s r (2-1)=(192+r)%32*64+(s.get! 1).toNat%64:=by
   show r*64+(s.get! 1).toNat%64=_;omega
  have kb:Utf8.decode s 0=if 128≤fZ s r (2-1) then (fZ s r (2-1),2) else (0xFFFD,1):=by
   rw[sh];simp only[Utf8.decode,Nat.zero_add,hb,e1,e2,hc 1 (by omega) (by omega),Utf8.runeError];simp
  have adQ:fZ s r (2-1)<2048:=hlt;refine⟨λjL=>?_,λhg=>?_⟩
  ·rw[kb,ae (by omega)]
  ·rw[kb,al (by omega)]
 ·have e1:¬ 224+r<128:=by omega
  have e2:((224+r)/32==6)=false:=by rw[lp];omega
  have e3:((224+r)/16==14)=true:=by rw[beq_iff_eq];omega
  have sh:fZ s r (3-1)=(224+r)%16*4096+(s.get! 1).toNat%64*64+(s.get! 2).toNat%64:=by
   show (r*64+(s.get! 1).toNat%64)*64+(s.get! 2).toNat%64=_;omega
  have kb:Utf8.decode s 0=if 2048≤fZ s r (3-1)∧Utf8.valid (fZ s r (3-1))=true then (fZ s r (3-1),3) else (0xFFFD,1):=by
   rw[sh];simp only[Utf8.decode,Nat.zero_add,hb,e1,e2,e3,hc 1 (by omega) (by omega),hc 2 (by omega) (by omega),Utf8.runeError];simp
  have hv:Utf8.valid (fZ s r (3-1))=true↔(fZ s r (3-1)<55296∨(57344≤fZ s r (3-1)∧fZ s r (3-1)≤1114111)):=by
   simp only[Utf8.valid,Bool.or_eq_true,fB,decide_eq_true_eq];omega
  refine⟨λjL=>?_,λhg=>?_⟩
  ·rw[kb,ae (by rw[hv];omega)]
  ·rw[kb,al (by rw[hv];omega)]
 ·have e1:¬ 240+r<128:=by omega
  have e2:((240+r)/32==6)=false:=by rw[lp];omega
  have e3:((240+r)/16==14)=false:=by rw[lp];omega
  have iQ:((240+r)/8==30)=true:=by rw[beq_iff_eq];omega
  have sh:fZ s r (4-1)=(240+r)%8*262144+(s.get! 1).toNat%64*4096+(s.get! 2).toNat%64*64+(s.get! 3).toNat%64:=by
   show ((r*64+(s.get! 1).toNat%64)*64+(s.get! 2).toNat%64)*64+(s.get! 3).toNat%64=_;omega
  have kb:Utf8.decode s 0=if 65536≤fZ s r (4-1)∧Utf8.valid (fZ s r (4-1))=true then (fZ s r (4-1),4) else (0xFFFD,1):=by
   rw[sh];simp only[Utf8.decode,Nat.zero_add,hb,e1,e2,e3,iQ,hc 1 (by omega) (by omega),hc 2 (by omega) (by omega),hc 3 (by omega) (by omega),Utf8.runeError];simp
  have hv:Utf8.valid (fZ s r (4-1))=true↔(fZ s r (4-1)<55296∨(57344≤fZ s r (4-1)∧fZ s r (4-1)≤1114111)):=by
   simp only[Utf8.valid,Bool.or_eq_true,fB,decide_eq_true_eq];omega
  refine⟨λjL=>?_,λhg=>?_⟩
  ·rw[kb,ae (by rw[hv];omega)]
  ·rw[kb,al (by rw[hv];omega)]
end
def zr (x:Nat×Nat):Bool:=if x.1≠65533 then true else decide (x.2=3)
theorem VC (s:ByteArray)(i:Nat):zr (Utf8.decode s i)=lZ (Utf8.decode s i):=by
 rcases Im s i with h | h
 ·unfold zr lZ;by_cases h1:(Utf8.decode s i).1=65533
  ·rw[h1]at h;have h2:(Utf8.decode s i).2=3:=by rw[← h];rfl
   rw[ae (λh3=>h3 h1),h2];have:Utf8.decode s i≠(65533,1):=λe=>by rw[e]at h2;cases h2
   simp[this]
  ·rw[al h1];have:Utf8.decode s i≠(65533,1):=λe=>h1 (by rw[e]);simp[this]
 ·rw[h];rfl
def vr (c:Int):Nat:=[0,2,2,3,3,3,3,3,3,1,2,2,2,2,2,1].getD c.toNat 0
def zt (o:gy)(k:Nat):Int:=if k=0 then o.a else if k=1 then o.b else o.c
def jR (n:Int)(o:gy)(k:Nat):Int:=if vr o.code≤k then 0 else if o.code=9∨(o.code=10∧k=1) then n else 31
def qN (n:Int)(o:gy)(k:Nat):Prop:=(k<vr o.code∧o.code=1∧k=1)∨(0≤zt o k∧zt o k≤jR n o k)
theorem xp {n:Int}{o:gy}:eX n o↔(0≤o.code∧o.code≤15)∧qN n o 0∧qN n o 1∧qN n o 2:=by
 obtain⟨code,a,b,c⟩:=o;simp only[eX,qN,zt,jR,eW];by_cases h:0≤code∧code≤15
 ·have h2:∃ m:Nat,code=m∧m≤15:=⟨code.toNat,by omega,by omega⟩;obtain⟨m,rfl,hm⟩:=h2;have:m=0∨m=1∨m=2∨m=3∨m=4∨m=5∨m=6∨m=7∨m=8∨m=9∨m=10∨m=11∨m=12∨m=13∨m=14∨m=15:=by omega
  rcases this with rfl | rfl | rfl | rfl | rfl | rfl | rfl | rfl | rfl | rfl | rfl | rfl | rfl | rfl | rfl | rfl <;> simp[vr] <;> omega
 ·constructor
  ·intro h3;omega
  ·intro h3;exact absurd h3.1 h
end
end Go.Proofs.YteoldcfapaiobaaGreat
