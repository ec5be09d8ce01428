/- The walks of packages word and vm, over whatever memory keeps the cells. -/
import Derived.Test.YteoldcfapaiobaaGreatE04Job
import Derived.Test.YteoldcfapaiobaaGreatE01Row
import Derived.Test.YteoldcfapaiobaaGreatE03Snap2
namespace Go.Proofs.YteoldcfapaiobaaGreat
open Tryz
open List (mem_cons_self getElem?_append_right mem_range eraseIdx_set_eq append_nil getElem_mem set_set range_succ countP_congr)
open Go.RowKit
set_option linter.unusedVariables false
set_option linter.unusedSimpArgs false
set_option maxRecDepth 10000
set_option synthInstance.maxSize 4000
set_option synthInstance.maxHeartbeats 400000
section
section
variable {W w:World}{L:List SP}
theorem Jy {x:Int}(I:U W w L)(hx:dk x):Calls prog 229 #[.int .i32 x,.int .i64 32] w λe w'=>e=.returned (.int .i64 (kx x))∧U W w' L:=by
 have h1:=Int.tmod_lt_of_pos x (b:=32) (by decide);have h2:=Int.lt_tmod_of_pos x (b:=32) (by decide);have hm:(kx x:Int)=x%32:=by
  have h1:=Int.emod_nonneg x (show (32:Int)≠0 by decide);show (((x%32).toNat:Nat):Int)=_;omega
 have ht:x.tmod 32=if 0≤x then x%32 else -((-x)%32):=by
  split
  ·exact Int.tmod_eq_emod_of_nonneg (by omega)
  ·rw[← Int.neg_neg (x.tmod 32),← Int.neg_tmod,Int.tmod_eq_emod_of_nonneg (by omega)]
 simp only[dk]at hx;refine EN func229 ntmps229 rfl rfl λa E=>?_;refine RN 6 E I λa E=>?_;replace E:=E.aM 7;refine SX 3 E I (by rw[gi (by omega) (by omega)]) λa E=>?_;refine IF 7 E I (λao a E=>?_) λao a E=>?_
 ·
  refine RN 4 E I λa E=>?_;rw[show x.tmod 32+32=(kx x:Int) from by rw[hm,ht];split <;> omega]at E;refine RT 3 E I ?_;exact⟨rfl,I⟩
 refine RT 3 E I ?_;exact⟨by rw[hm,show x.tmod 32=x%32 from by rw[ht] at *;split at*<;> omega],I⟩
theorem VZ {x y:Int}(I:U W w L):Calls prog 244 #[.int .i32 x,.int .i32 y] w λe w'=>e=.returned (.int .i32 (ia (x+y)))∧U W w' L:=by
 refine EN func244 ntmps244 rfl rfl λa E=>?_;refine RT 7 E I ?_;exact⟨rfl,I⟩
theorem V0 {x y:Int}(I:U W w L):Calls prog 245 #[.int .i32 x,.int .i32 y] w λe w'=>e=.returned (.int .i32 (ia (x-y)))∧U W w' L:=by
 refine EN func245 ntmps245 rfl rfl λa E=>?_;refine RT 7 E I ?_;exact⟨rfl,I⟩
theorem V1 {x y:Int}(I:U W w L):Calls prog 246 #[.int .i32 x,.int .i32 y] w λe w'=>e=.returned (.int .i32 (ia (x*y)))∧U W w' L:=by
 refine EN func246 ntmps246 rfl rfl λa E=>?_;refine RT 7 E I ?_;exact⟨rfl,I⟩
theorem V2 {x y:Int}(I:U W w L):Calls prog 247 #[.int .i32 x,.int .i32 y] w λe w'=>e=.returned (.int .i32 (if y=0 then 0 else ia (x.tdiv y)))∧U W w' L:=by
 refine EN func247 ntmps247 rfl rfl λa E=>?_;refine IF 8 E I (λaj a E=>?_) λaj a E=>?_
 ·
  refine RT 2 E I ?_;exact⟨by rw[ak (by omega)],I⟩
 refine IF 3 E I (λao a E=>?_) λao a E=>?_
 ·
  refine RT 4 E I ?_;exact⟨by rw[ag (by omega),show y = -1 from by omega,Int.tdiv_neg,Int.tdiv_one,show (0:Int)-x = -x from by omega];rfl,I⟩
 refine RN 3 E I λa E=>?_;refine SS E (H4 E (by omega)) λa E=>?_;refine RT 1 E I ?_;exact⟨by rw[ag (by omega)];rfl,I⟩
theorem Jz {z:Bool}(I:U W w L):Calls prog 248 #[.bool z] w λe w'=>e=.returned (.int .i32 (if z=true then 1 else 0))∧U W w' L:=by
 refine EN func248 ntmps248 rfl rfl λa E=>?_;refine IF 5 E I (λaj a E=>?_) λaj a E=>?_
 ·
  refine RT 2 E I ?_;exact⟨by rw[ak aj],I⟩
 refine RT 2 E I ?_;exact⟨by rw[ag (by rw[aj];decide)],I⟩
theorem V3 {k x y:Int}(I:U W w L):Calls prog 242 #[.int .i64 k,.int .i32 x,.int .i32 y] w λe w'=>e=.returned (.int .i32 (iQ k x y))∧U W w' L:=by
 refine EN func242 ntmps242 rfl rfl λa E=>?_;refine IF 8 E I (λaj a E=>?_) λaj a E=>?_
 ·
  refine CL 3 E I (VZ I) λa w E I=>?_;refine RT 1 E I ?_;exact⟨by simp[iQ,aj],I⟩
 refine IF 3 E I (λao a E=>?_) λao a E=>?_
 ·
  refine CL 3 E I (V0 I) λa w E I=>?_;refine RT 1 E I ?_;exact⟨by simp[iQ,ao],I⟩
 refine IF 3 E I (λay a E=>?_) λay a E=>?_
 ·
  refine CL 3 E I (V1 I) λa w E I=>?_;refine RT 1 E I ?_;exact⟨by simp[iQ,ay],I⟩
 refine IF 3 E I (λbk a E=>?_) λbk a E=>?_
 ·
  refine CL 3 E I (V2 I) λa w E I=>?_;refine RT 1 E I ?_;exact⟨by simp[iQ,bk],I⟩
 refine IF 3 E I (λbO a E=>?_) λbO a E=>?_
 ·
  refine CL 4 E I (Jz I) λa w E I=>?_;refine RT 1 E I ?_;exact⟨by simp[iQ,bO],I⟩
 refine CL 4 E I (Jz I) λa w E I=>?_;refine RT 1 E I ?_;exact⟨by simp[iQ,aj,ao,ay,bk,bO],I⟩
theorem V4 {s:ByteArray}{n:Int}(I:U W w L)(aG:s.size≤1099511627776)(hn:dk n):Calls prog 241 #[.string s,.int .i64 n] w λe w'=>e=.returned (.int .i32 (mS s n))∧U W w' L:=by
 simp only[dk]at hn;refine EN func241 ntmps241 rfl rfl λa E=>?_;refine RN 5 E I λa E=>?_;refine CE E rfl I underlying9 rfl λb8 a w E I ho=>?_;clear ho;refine RN 0 E I λa E=>?_;refine aO (λμ a w=>∃ (pos:Nat) (dn:List (Nat×Nat)),(μ=s.size-pos∧pos≤s.size∧ea s 0=dn++ea s pos∧dn.length≤pos∧(n<0∨(dn.length:Int)≤n))∧Fr a 17 [(0,.string s),(1,.int .i64 (n-dn.length)),(8,pt b8)]∧U W w (kG b8 (.stringIter s pos)::L)) (s.size) (⟨0,[],⟨by simp,by simp,by simp,by simp,by simp;omega⟩,by rw[show n-(([]:List (Nat×Nat)).length:Int)=n from by simp];exact E.ab [0,1,8],I⟩) ?_;clear E I;rintro μ a w ⟨pos,dn,⟨rfl,p5,c6,mn,nD⟩,E,I⟩;refine RN 1 E I λa E=>?_;refine CG E rfl I rfl λa w E I=>?_;refine RN 0 E I λa E=>?_;refine SS E (nW E (CC s pos)) λa E=>?_;refine IF 1 E I (λaj a E=>?_) λaj a E=>?_
 ·
  have mU:=q3 aj;have jj:=Di p5;have pj:dX s pos=pos+(Utf8.decode s pos).2:=by rw[dX,ak aj]
  have ln:=tS s pos;refine RN 1 E I λa E=>?_;refine SS E (nW E (CD aj)) λa E=>?_;refine IF 5 E I (λao a E=>?_) λao a E=>?_
  ·
   refine RT 3 E I ?_;refine⟨?_,I.sub⟩;have mX:n.toNat=dn.length:=by omega
   rw[mS,ak (by omega),c6,mU,mX,getElem?_append_right (a7 _),Nat.sub_self];rfl
  refine RN 3 E I λa E=>?_;exact⟨s.size-dX s pos,by omega,dX s pos,dn++[Utf8.decode s pos],⟨rfl,jj,by rw[c6,mU,ds];rfl,by rw[aL];simp;omega,by rw[aL];simp;omega⟩,by rw[show n-((dn++[Utf8.decode s pos]).length:Int)=n-(dn.length:Int)-1 from by rw[aL];simp;omega];exact E.ab [0,1,8],I.sub⟩
 refine RT 2 E I ?_;refine⟨?_,I.sub⟩;have gE:=q4 (s:=s) (pos:=pos) aj;rw[gE,append_nil]at c6;rw[mS];split
 ·rw[c6,iW (by omega)];rfl
 ·rfl
structure xO (W:World)(t:TypeId)(ad:Addr)(tY fs:FuncId)(J:(Nat→Int)→Bool→SP):Prop where
 oj : o5 prog t "Get" tY
 om:g9 prog tY=true
 zZ : o5 prog t "Set" fs
 vq:g9 prog fs=true
 ok:∀ (w:World) (L:List SP) (g:Nat→Int) (bad:Bool),U W w (J g bad::L)→dO g
 get:∀ (w:World) (L:List SP) (g:Nat→Int) (bad:Bool) (c:Nat),c<32→U W w (J g bad::L)→Calls prog tY (List.toArray [.pointer (some ad),.int .i64 c]) w λe w'=>e=.returned (.int .i32 (g c))∧U W w' (J g bad::L)
 set:∀ (w:World) (L:List SP) (g:Nat→Int) (bad:Bool) (c:Nat) (v:Int),c<32→dk v→U W w (J g bad::L)→Calls prog fs (List.toArray [.pointer (some ad),.int .i64 c,.int .i32 v]) w λe w' =>
  ∃ (g':Nat→Int) (fo:Bool),e=.returned (.tuple #[])∧((fo=true∧g'=g)∨(fo=false∧bad=false∧g'=ck g c v))∧U W w' (J g' fo::L)
abbrev hK (p:Pr)(aq:Option Addr)(cO:Nat)(t:TypeId)(ad:Addr)(fr:Int)(adP:Option Addr)(tZ cP:Nat)(aT:Nat):List Value :=
 [.string p.title,.slice aq p.ops.length cO,.iface t (.pointer (some ad)),.int .i64 fr,.slice adP tZ cP,.int .i64 aT]
variable {t:TypeId}{ad:Addr}{tY fs gm aT cO cP:Nat}{J:(Nat→Int)→Bool→SP}{p:Pr}{aq adP:Option Addr}{fr:Int}{b:List UInt8}{g:Nat→Int}{bad:Bool}{o:gC}
theorem V5 {x:Int}(I:U W w (aa gm 336 (hK p aq cO t ad fr adP b.length cP aT)::L))(hx:dk x)(hb:b.length≤1099511627776)(hp:∀ w',U W w' L→aX w' adP b.length b) :
   Calls prog 240 #[pt gm,.int .i32 x] w λe w'=>e=.returned (.int .i32 (ml b x))∧U W w' (aa gm 336 (hK p aq cO t ad fr adP b.length cP aT)::L):=by
 simp only[dk]at hx;refine EN func240 ntmps240 rfl rfl λa E=>?_;refine BY 7 E I (λbA a E=>?_) λbA a E=>?_
 ·
  refine RT 12 E I ?_;exact⟨by rw[ml,ag (by omega)],I⟩
 refine SX 1 E I (by rw[gi (by omega) (by omega)]) λa E=>?_;refine IF 7 E I (λaj a E=>?_) λaj a E=>?_
 ·
  refine RT 2 E I ?_;exact⟨by rw[ml,ag (by omega)],I⟩
 refine RN 1 E I λa E=>?_;obtain⟨k,hk⟩:∃ k:Nat,x=(k:Int):=⟨x.toNat,by omega⟩;obtain⟨_,_,a6⟩:=hp _ I.tail;have xP:k<b.length:=by omega
 obtain⟨bp,op,gY,c4⟩:∃ bp op,adP=some ⟨bp,op,none⟩∧Rd w bp op (bc b):=by
  cases hh:adP with
  | none =>
   have:=(hp _ I.tail).2.1 hh;omega
  | some a =>
   obtain⟨b1,o1,rfl,h1⟩:=a6 a hh (by omega);exact⟨b1,o1,rfl,h1⟩
 rw[hk]at E;refine RN 4 E I λa E=>?_;rw[gY]at E;refine RN 2 E I λa E=>?_;refine SS E (ae E (c4 k (.int .u8 b[k].toNat) (by simp[bc,xP]))) λa E=>?_;refine SX 0 E I (by have:=b[k].toNat_lt;exact ib (by omega) (by omega)) λa E=>?_;refine RT 1 E I ?_;refine⟨?_,I.sub⟩;rw[ml,ak (by omega),hk,Int.toNat_natCast,bn,aE xP];rfl
theorem nE {c:Nat}{v:Int}(h:dO g)(hv:dk v):dO (ck g c v):=λd hd=>by
 simp only[ck];split
 ·exact hv
 ·exact h d hd
def qk (x:Int)(m:Nat):Prop:=∃ n:Nat,x=(n:Int)∧n≤m
def lN (x:Int)(m:Nat):Prop:=∃ n:Nat,x=(n:Int)∧n<m
theorem qk.of {x:Int}{m:Nat}(h:0≤x∧x≤m):qk x m:=⟨x.toNat,by omega,by omega⟩
theorem lN.of {x:Int}{m:Nat}(h:0≤x∧x<m):lN x m:=⟨x.toNat,by omega,by omega⟩
theorem V6 {M:xO W t ad tY fs J}{m:Nat}(I:U W w (aa gm 336 (hK p aq cO t ad fr adP b.length cP aT)::J g bad::L))(ho:eZ m o)(h0:o.code≠0)(h9:o.code≠9)(eI:o.code≠10)(Jp:o.code≠13)
   (aG:p.title.size≤1000000000) (hb:b.length≤1099511627776) (hp:∀ w',U W w' L→aX w' adP b.length b) :
   Calls prog 230 #[pt gm,.agg (dN o).toArray] w λe w'=>e=.returned (.int .i32 (jC p fr b g o))∧U W w' (aa gm 336 (hK p aq cO t ad fr adP b.length cP aT)::J g bad::L):=by
 have hg:dO g:=M.ok _ _ g bad I.tail;have ql:=ho;simp only[eZ,eY]at ql;have oq:o.code≠1→o.code≠15→lN o.b 32:=λh1 h2=>lN.of (by omega);have ky:3≤o.code∧o.code≤8→lN o.c 32:=λh=>lN.of (by omega);have q9:o.code≠1→o.code≠2→o.code≠11→o.code≠12→o.code≠14→o.code≠15→3≤o.code∧o.code≤8:=by omega
 clear ql;refine EN func230 ntmps230 rfl rfl λa E=>?_;refine BX 1 E I λb3 a w E I=>?_;change U W w (aa b3 114 (dN o)::_) at I;refine IF 8 E I (λaj a E=>?_) λaj a E=>?_
 ·
  refine RN 3 E I λa E=>?_;refine SS E (gj E underlying3 underlying21) λa E=>?_;refine RT 1 E I ?_;exact⟨by simp[jC,aj];rfl,I.sub⟩
 refine IF 3 E I (λao a E=>?_) λao a E=>?_
 ·
  refine RN 1 E I λa E=>?_;obtain⟨bC,dW,ot⟩:=oq (by omega) (by omega);refine bQ 0 [5] [0,1,2,4,3003,1005,1006,7] E I λa w E I hH hC=>?_;refine RH 6 E I hH hC λa E=>?_;rw[dW]at E;refine jA E rfl M.oj M.om rfl (M.get _ _ g bad bC ot (I.pick (J g bad))) (by rfl) ?_;clear E I;rintro e w ⟨rfl,I⟩;refine⟨_,rfl,λa E=>?_⟩;refine RN 1 E I λa E=>?_;refine RT 0 E I ?_;exact⟨by simp[jC,ao,dW],I.sub⟩
 refine IF 3 E I (λay a E=>?_) λay a E=>?_
 ·
  refine RN 1 E I λa E=>?_;obtain⟨bC,dW,ot⟩:=oq (by omega) (by omega);refine bQ 0 [6] [0,1,2,3,5,3004,1006,1007,1008,9] E I λa w E I hH hC=>?_;refine RH 7 E I hH hC λa E=>?_;rw[dW]at E;refine jA E rfl M.oj M.om rfl (M.get _ _ g bad bC ot (I.pick (J g bad))) (by rfl) ?_;clear E I;rintro e w ⟨rfl,I⟩;refine⟨_,rfl,λa E=>?_⟩;refine CL 0 E I (V5 (I.jJ gm) (hg bC ot) hb (λw' h=>hp w' h.sub)) λa w E I=>?_;refine RN 1 E I λa E=>?_;refine RT 0 E I ?_;exact⟨by simp[jC,ay,dW],I.sub⟩
 refine IF 3 E I (λbk a E=>?_) λbk a E=>?_
 ·
  refine aV 1 (λw0 w'=>Rd w' gm 0 (hK p aq cO t ad fr adP b.length cP aT)∧Rd w' b3 0 (dN o)) [7,9,10,11] [0,1,2,4,5,6,8,3003,12,13,3007,1009,1010,1011,1014,15] E I λa w E I hH=>?_;obtain⟨bC,dW,ot⟩:=oq (by omega) (by omega);have xQ:=xC (g bC);have jD:Rd w gm 0 (hK p aq cO t ad fr adP b.length cP aT):=I.ai;have gE:Rd w b3 0 (dN o):=I.ai;have hC:=And.intro jD gE;refine RH 7 E I hH hC λa E=>?_;refine QH E (λw hc=>ae E (hc.1 2 _ rfl)) hC λa E=>?_;refine RH 2 E I hH hC λa E=>?_;refine QH E (λw hc=>ae E (hc.1 2 _ rfl)) hC λa E=>?_;refine RH 0 E I hH hC λa E=>?_;refine SS E (ae E (hC.2 2 _ rfl)) λa E=>?_;rw[dW]at E;refine RH 0 E I hH hC λa E=>?_;refine jA E rfl M.oj M.om rfl (M.get _ _ g bad bC ot (I.pick (J g bad))) (by rfl) ?_;clear E I;rintro e w ⟨rfl,I⟩;refine⟨_,rfl,λa E=>?_⟩;replace hC:=hH.at w (And.intro I.ai I.ai);refine RH 0 E I hH hC λa E=>?_;refine CL 0 E I (Jy I (hg bC ot)) λa w E I=>?_;replace hC:=hH.at w (And.intro I.ai I.ai);refine RH 0 E I hH hC λa E=>?_;refine jA E rfl M.oj M.om rfl (M.get _ _ g bad (kx (g bC)) xQ (I.pick (J g bad))) (by rfl) ?_;clear E I;rintro e w ⟨rfl,I⟩;refine⟨_,rfl,λa E=>?_⟩;refine RN 1 E I λa E=>?_;refine RT 0 E I ?_;exact⟨by simp[jC,bk,dW],I.sub⟩
 refine IF 3 E I (λbO a E=>?_) λbO a E=>?_
 ·
  refine aV 1 (λw0 w'=>Rd w' gm 0 (hK p aq cO t ad fr adP b.length cP aT)∧Rd w' b3 0 (dN o)) [8,10,11,12] [0,1,2,3,5,6,7,9,3004,3008,1010,1011,1012,1013,14] E I λa w E I hH=>?_;obtain⟨bC,dW,ot⟩:=oq (by omega) (by omega);have JA:=hg bC ot;have V7:=JA;simp only[dk]at V7;have jD:Rd w gm 0 (hK p aq cO t ad fr adP b.length cP aT):=I.ai;have gE:Rd w b3 0 (dN o):=I.ai;have hC:=And.intro jD gE;refine RH 8 E I hH hC λa E=>?_;refine QH E (λw hc=>ae E (hc.1 0 _ rfl)) hC λa E=>?_;refine QH E (λw hc=>ae E (hc.1 2 _ rfl)) hC λa E=>?_;refine RH 0 E I hH hC λa E=>?_;refine SS E (ae E (hC.2 2 _ rfl)) λa E=>?_;rw[dW]at E;refine RH 0 E I hH hC λa E=>?_;refine jA E rfl M.oj M.om rfl (M.get _ _ g bad bC ot (I.pick (J g bad))) (by rfl) ?_;clear E I;rintro e w ⟨rfl,I⟩;refine⟨_,rfl,λa E=>?_⟩;replace hC:=hH.at w (And.intro I.ai I.ai);refine RH 0 E I hH hC λa E=>?_;refine SX 0 E I (by rw[gi (by omega) (by omega)]) λa E=>?_;refine RH 0 E I hH hC λa E=>?_;refine CL 0 E I (V4 I (by omega) JA) λa w E I=>?_;refine RN 1 E I λa E=>?_;refine RT 0 E I ?_;exact⟨by simp[jC,bO,dW],I.sub⟩
 refine IF 3 E I (λeE a E=>?_) λeE a E=>?_
 ·
  refine RN 5 E I λa E=>?_;refine SS E (gj E underlying3 underlying100) λa E=>?_;refine RN 0 E I λa E=>?_;refine SS E (gj E underlying100 underlying21) λa E=>?_;refine RT 1 E I ?_;refine⟨?_,I.sub⟩;have e:IntKind.i32.wrap (IntKind.u32.wrap fr)=ia fr:=by
   simp only[ia,IntKind.wrap,IntKind.signed,IntKind.bits];have:fr%4294967296%4294967296=fr%4294967296:=Int.emod_emod_of_dvd _ (Int.dvd_refl _);simp[this]
  simp[jC,eE,e]
 refine RN 1 E I λa E=>?_;obtain⟨bC,dW,ot⟩:=oq (by omega) (by omega);obtain⟨tG,pq,V8⟩:=ky (q9 aj ao ay bk bO eE);refine bQ 0 [5] [0,1,2,4,3003,1005,1006,7] E I λa w E I hH hC=>?_;refine RH 6 E I hH hC λa E=>?_;rw[dW]at E;refine jA E rfl M.oj M.om rfl (M.get _ _ g bad bC ot (I.pick (J g bad))) (by rfl) ?_;clear E I;rintro e w ⟨rfl,I⟩;refine⟨_,rfl,λa E=>?_⟩;refine RN 1 E I λa E=>?_;refine aV 1 (λw0 w'=>Rd w' gm 0 (hK p aq cO t ad fr adP b.length cP aT)∧Rd w' b3 0 (dN o)) [6,8,9] [0,2,3,4,5,7,3001,3006,1008,1009,1010,11] E I λa w E I hH=>?_;have jD:Rd w gm 0 (hK p aq cO t ad fr adP b.length cP aT):=I.ai;have gE:Rd w b3 0 (dN o):=I.ai;have hC:=And.intro jD gE;refine RH 6 E I hH hC λa E=>?_;refine QH E (λw hc=>ae E (hc.2 0 _ rfl)) hC λa E=>?_;refine QH E (λw hc=>ae E (hc.1 2 _ rfl)) hC λa E=>?_;refine RH 0 E I hH hC λa E=>?_;refine SS E (ae E (hC.2 3 _ rfl)) λa E=>?_;rw[pq]at E;refine RH 0 E I hH hC λa E=>?_;refine jA E rfl M.oj M.om rfl (M.get _ _ g bad tG V8 (I.pick (J g bad))) (by rfl) ?_;clear E I;rintro e w ⟨rfl,I⟩;refine⟨_,rfl,λa E=>?_⟩;replace hC:=hH.at w (And.intro I.ai I.ai);refine RH 0 E I hH hC λa E=>?_;refine CL 0 E I (V3 I) λa w E I=>?_;refine RN 1 E I λa E=>?_;refine RT 0 E I ?_;exact⟨by simp[jC,aj,ao,ay,bk,bO,eE,dW,pq],I.sub⟩
theorem JB (s:ByteArray)(n:Int):dk (mS s n):=by
 have hb:∀ pos,∀ x∈ea s pos,x.1<1114112:=by
  have h:∀ k pos,s.size-pos≤k→∀ x∈ea s pos,x.1<1114112:=by
   intro k
   induction k with
   | zero=>intro pos h x hx;rw[q4 (by omega)]at hx;simp at hx
   | succ k ih =>
    intro pos h x hx;by_cases hp:pos<s.size
    ·rw[q3 hp]at hx;rcases List.mem_cons.1 hx with rfl | hx
     ·exact U8 s pos
     ·have:=(tS s pos).1;exact ih (dX s pos) (by rw[dX,ak hp];omega) x hx
    ·rw[q4 hp]at hx;simp at hx
  exact λpos=>h _ pos (a7 _)
 simp only[mS,dk];split
 ·cases hx:(ea s 0)[n.toNat]? with
  | none=>simp
  | some x =>
   have:=hb 0 x (bH hx);simp only[Option.map_some,Option.getD_some];omega
 ·omega
theorem JC (k x y:Int):dk (iQ k x y):=by
 unfold iQ;have h1:dk 1:=by simp[dk]
 have h0:dk 0:=by simp[dk]
 repeat' split
 all_goals first | exact xD _ | exact h1 | exact h0
theorem JD (b:List UInt8)(x:Int):dk (ml b x):=by
 simp only[ml,dk];split
 ·have:=(b.getD x.toNat 0).toNat_lt;omega
 ·omega
theorem JE {m:Int}(hg:dO g)(ho:eZ m o)(h9:o.code≠9)(eI:o.code≠10):dk (jC p fr b g o):=by
 simp only[eZ,eY]at ho;have hb:o.code≠1→o.code≠15→o.code≠0→o.b.toNat<32:=λh1 h2 h3=>by omega
 have h0:o.code=0→o.b.toNat<32:=λh=>by omega
 unfold jC;split
 ·exact xD _
 ·split
  ·exact hg _ (hb (by omega) (by omega) (by omega))
  ·split
   ·exact JD _ _
   ·split
    ·exact hg _ (xC _)
    ·split
     ·exact JB _ _
     ·split
      ·exact xD _
      ·exact JC _ _ _
set_option maxHeartbeats 4000000 in
theorem V9 {M:xO W t ad tY fs J}(I:U W w (aa gm 336 (hK p aq cO t ad fr adP b.length cP aT)::J g bad::aA W p aq cO::L))(a6:∀ o∈p.ops,eZ p.ops.length o)(e4:p.ops[aT]?=some o)
   (aG:p.title.size≤1000000000) (dV:p.ops.length≤1000000000) (hb:b.length≤1099511627776) (hp:∀ w',U W w' L→aX w' adP b.length b) :
   Calls prog 203 #[pt gm] w λe w'=>∃ (g':Nat→Int) (xR:Nat) (fo r:Bool),e=.returned (.bool r)∧(fo=false→bad=false∧ej p fr b g aT o=(g',xR,r))∧xR≤p.ops.length ∧
    U W w' (aa gm 336 (hK p aq cO t ad fr adP b.length cP xR)::J g' fo::aA W p aq cO::L):=by
 have hg:dO g:=M.ok _ _ g bad I.tail;have ho:=a6 o (bH e4);have aeR:=(a2.1 e4).1;have ql:=ho;simp only[eZ,eY]at ql;have DO:o.code=9→qk o.a p.ops.length:=λh=>qk.of (by omega);have jZ:o.code≠9→o.code≠0→lN o.a 32:=λh h2=>lN.of (by omega);have DP:o.code=10→qk o.b p.ops.length:=λh=>qk.of (by omega);have Wa:o.code=13→lN o.b 32:=λh=>lN.of (by omega);clear ql;refine EN func203 ntmps203 rfl rfl λa E=>?_;refine bQ 3 [8,11] [0,1,2,3,5,6,7,3004,3008,9,3010,1011,1012] E I λa w E I hH hC=>?_;obtain⟨kJ,oo,gY,gE⟩:=I.q6 aq (by omega);rw[gY]at I;replace hH:=Hd.gy I;refine RH 10 E I hH hC λa E=>?_;refine QH E (λw hc=>bS E underlying114 rfl Ty.t114 (hc.rd (vE gE e4))) hC λa E=>?_;refine RH 0 E I hH hC λa E=>?_;refine eV E rfl I Ty.t114 rfl λb3 a w E I ho=>?_;replace hC:=hC.trans ho;clear ho;refine RH 0 E I hH hC λa E=>?_;refine SA 0 E I λa w E I=>?_;refine RN 0 E I λa E=>?_;rw[← gY]at I;replace E:=E.ab [0,3];refine ST 8 E I (λa w E I=>?_) (hlt:=(by simp[hK]));rw[show ((aT:Int)+1)=((aT+1:Nat):Int) from rfl]at I;change U W w (aa gm 336 (hK p aq cO t ad fr adP b.length cP (aT+1))::_) at I;refine IF 7 E I (λaj a E=>?_) λaj a E=>?_
 ·
  refine RT 2 E I ?_;exact⟨g,aT+1,bad,false,rfl,λh=>⟨h,by rw[ej,ak aj]⟩,by omega,I.sub⟩
 refine IF 3 E I (λao a E=>?_) λao a E=>?_
 ·
  obtain⟨cD,dI,j0⟩:=DO ao;refine ST 5 E I (λa w E I=>?_) (hlt:=(by simp[hK]));rw[dI]at I;change U W w (aa gm 336 (hK p aq cO t ad fr adP b.length cP cD)::_) at I;refine RT 2 E I ?_;exact⟨g,cD,bad,true,rfl,λh=>⟨h,by rw[ej,ag aj,ak ao,dI];rfl⟩,by omega,I.sub⟩
 refine IF 3 E I (λay a E=>?_) λay a E=>?_
 ·
  refine RN 1 E I λa E=>?_;obtain⟨cD,dI,j0⟩:=jZ ao aj;obtain⟨bC,dW,iD⟩:=DP ay;refine bQ 0 [5] [0,1,2,4,3003,1005,1006,7] E I λa w E I hH hC=>?_;refine RH 6 E I hH hC λa E=>?_;rw[dI]at E;refine jA E rfl M.oj M.om rfl (M.get _ _ g bad cD j0 (I.pick (J g bad))) (by rfl) ?_;clear E I;rintro e w ⟨rfl,I⟩;refine⟨_,rfl,λa E=>?_⟩;refine RN 1 E I λa E=>?_;refine IF 0 E I (λbk a E=>?_) λbk a E=>?_
  ·
   refine ST 5 E I (λa w E I=>?_) (hlt:=(by simp[hK]));rw[dW]at I;change U W w (aa gm 336 (hK p aq cO t ad fr adP b.length cP bC)::_) at I;refine RT 2 E I ?_;exact⟨g,bC,bad,true,rfl,λh=>⟨h,by rw[ej,ag aj,ag ao,ak ay,dI,dW,Int.toNat_natCast,ak bk];rfl⟩,by omega,I.sub⟩
  refine RT 2 E I ?_;exact⟨g,aT+1,bad,true,rfl,λh=>⟨h,by rw[ej,ag aj,ag ao,ak ay,dI,Int.toNat_natCast,ag bk]⟩,by omega,I.sub⟩
 refine IF 3 E I (λbO a E=>?_) λbO a E=>?_
 ·
  refine RN 1 E I λa E=>?_;obtain⟨cD,dI,j0⟩:=jZ ao aj;obtain⟨bC,dW,iD⟩:=Wa bO;refine bQ 0 [5] [0,1,2,4,3003,1005,1006,1007,8] E I λa w E I hH hC=>?_;refine RH 6 E I hH hC λa E=>?_;rw[dI]at E;refine jA E rfl M.oj M.om rfl (M.get _ _ g bad cD j0 (I.pick (J g bad))) (by rfl) ?_;clear E I;rintro e w ⟨rfl,I⟩;refine⟨_,rfl,λa E=>?_⟩;refine CL 0 E I (Jy I (hg cD j0)) λa w E I=>?_;refine RN 1 E I λa E=>?_;refine aV 0 (λw0 w'=>Rd w' gm 0 (hK p aq cO t ad fr adP b.length cP (aT+1))∧Rd w' b3 0 (dN o)) [8,10,11] [0,1,2,4,5,6,7,9,3003,12,13,3008,1010,1011,1014] E I λa w E I hH=>?_;have jD:Rd w gm 0 (hK p aq cO t ad fr adP b.length cP (aT+1)):=I.ai;have j1:Rd w b3 0 (dN o):=I.ai;have hC:=And.intro jD j1;refine RH 8 E I hH hC λa E=>?_;refine QH E (λw hc=>ae E (hc.1 2 _ rfl)) hC λa E=>?_;refine RH 2 E I hH hC λa E=>?_;refine QH E (λw hc=>ae E (hc.1 2 _ rfl)) hC λa E=>?_;refine RH 0 E I hH hC λa E=>?_;refine SS E (ae E (hC.2 2 _ rfl)) λa E=>?_;rw[dW]at E;refine RH 0 E I hH hC λa E=>?_;refine jA E rfl M.oj M.om rfl (M.get _ _ g bad bC iD (I.pick (J g bad))) (by rfl) ?_;clear E I;rintro e w ⟨rfl,I⟩;refine⟨_,rfl,λa E=>?_⟩;replace hC:=hH.at w (And.intro I.ai I.ai);refine RH 0 E I hH hC λa E=>?_;refine jA E rfl M.zZ M.vq rfl (M.set _ _ g bad (kx (g cD)) (g bC) (xC _) (hg bC iD) (I.pick (J g bad))) (by rfl) ?_;clear E I;rintro e w ⟨g',fo,rfl,xH,I⟩;refine⟨_,rfl,λa E=>?_⟩;refine RT 2 E I ?_;refine⟨g',aT+1,fo,true,rfl,λh=>?_,by omega,I.sub⟩;obtain⟨_,h1,h2⟩:=xH.resolve_left (λh3=>by rw[h]at h3;cases h3.1);exact⟨h1,by rw[ej,ag aj,ag ao,ag ay,ak bO,dI,dW,Int.toNat_natCast,Int.toNat_natCast,h2]⟩
 refine aV 0 (λw0 w'=>Rd w' gm 0 (hK p aq cO t ad fr adP b.length cP (aT+1))∧Rd w' b3 0 (dN o)) [5,7,8] [0,1,2,4,6,3003,9,10,3005,1007,1008,1011] E I λa w E I hH=>?_;obtain⟨cD,dI,j0⟩:=jZ ao aj;have jD:Rd w gm 0 (hK p aq cO t ad fr adP b.length cP (aT+1)):=I.ai;have j1:Rd w b3 0 (dN o):=I.ai;have hC:=And.intro jD j1;refine RH 5 E I hH hC λa E=>?_;refine QH E (λw hc=>ae E (hc.1 2 _ rfl)) hC λa E=>?_;refine RH 2 E I hH hC λa E=>?_;refine QH E (λw hc=>ae E (hc.2 1 _ rfl)) hC λa E=>?_;rw[dI]at E;refine RH 0 E I hH hC λa E=>?_;refine SS E (bS E underlying114 rfl Ty.t114 (hC.2)) λa E=>?_;refine RH 0 E I hH hC λa E=>?_;refine CL 0 E I (V6 (M:=M) (L:=aa b3 114 (dN o)::aA W p aq cO::L) (I.sub (M:=aa gm 336 (hK p aq cO t ad fr adP b.length cP (aT+1))::J g bad::aa b3 114 (dN o)::aA W p aq cO::L)) ho aj ao ay bO aG hb (λw' h=>hp w' h.sub)) λa w E I=>?_;replace hC:=hH.at w (And.intro I.ai I.ai);refine RH 0 E I hH hC λa E=>?_;refine jA E rfl M.zZ M.vq rfl (M.set _ _ g bad cD (jC p fr b g o) j0 (JE hg ho ao ay) (I.pick (J g bad))) (by rfl) ?_;clear E I;rintro e w ⟨g',fo,rfl,xH,I⟩;refine⟨_,rfl,λa E=>?_⟩;refine RT 2 E I ?_;refine⟨g',aT+1,fo,true,rfl,λh=>?_,by omega,I.sub⟩;obtain⟨_,h1,h2⟩:=xH.resolve_left (λh3=>by rw[h]at h3;cases h3.1);exact⟨h1,by rw[ej,ag aj,ag ao,ag ay,ag bO,dI,Int.toNat_natCast,h2]⟩
theorem DQ {n:Nat}(h:p.ops[aT]?=some o):qg p fr b (n+1) g aT=if (ej p fr b g aT o).2.2 then qg p fr b n (ej p fr b g aT o).1 (ej p fr b g aT o).2.1 else (ej p fr b g aT o).1:=by
 rw[qg];simp only[h]
theorem DR {n:Nat}(h:p.ops.length≤aT):qg p fr b n g aT=g:=by
 cases n with
 | zero=>rfl
 | succ n=>rw[qg];simp only[iW h]
set_option maxHeartbeats 4000000 in
theorem JF {M:xO W t ad tY fs J}(I:U W w (J g bad::aA W p aq cO::L))(a6:dh p)(aG:p.title.size≤1000000000)(hb:b.length≤1099511627776)(hp:∀ w',U W w' L→aX w' adP b.length b) :
   Calls prog 174 #[.agg (bP p aq cO).toArray,.iface t (.pointer (some ad)),.int .i64 fr,.slice adP b.length cP] w λe w'=>∃ (g':Nat→Int) (fo:Bool) (n:Int),e=.returned (.int .i64 n)∧(fo=false→bad=false∧g'=e0 p fr b g) ∧
    U W w' (J g' fo::aA W p aq cO::L):=by
 have dV:p.ops.length≤64:=a6.1.2.2.1;refine EN func174 ntmps174 rfl rfl λa E=>?_;refine BX 1 E I λb4 a w E I=>?_;change U W w (aa b4 45 (bP p aq cO)::_) at I;refine RN 6 E I λa E=>?_;replace E:=E.aM 13;refine bh 1 E I (DM (I.pick (aA W p aq cO)) aG (by omega)) λr a w E ⟨hr,I⟩=>?_;rw[hr.2 a6]at E;refine RN 1 E I λa E=>?_;rw[show (!true)=false from rfl]at E;refine RN 1 E I λa E=>?_;replace E:=E.aM 17;refine RN 3 E I λa E=>?_;change Fr a 42 ((18,.agg (List.toArray [.string p.title,.slice aq p.ops.length cO]))::_) at E;refine BX 4 E I λxS a w E I=>?_;change U W w (aa xS 336 (hK p aq cO t ad fr adP b.length cP 0)::_) at I;refine RN 4 E I λa E=>?_;refine aO (λμ a w=>∃ (n aT:Nat) (g':Nat→Int) (fo:Bool),(μ=200-n∧n≤200∧aT≤p.ops.length∧(fo=false→bad=false∧qg p fr b (200-n) g' aT=e0 p fr b g))∧Fr a 42 [(4,pt b4),(9,pt xS),(10,.int .i64 n)]∧U W w (aa xS 336 (hK p aq cO t ad fr adP b.length cP aT)::aa b4 45 (bP p aq cO)::J g' fo::aA W p aq cO::L)) (200) (⟨0,0,g,bad,⟨by simp,by simp,by simp,λh=>⟨h,rfl⟩⟩,E.ab [4,9,10],I.sub⟩) ?_;clear E I;rintro μ a w ⟨n,aT,g',fo,⟨rfl,hn,e4,ou⟩,E,I⟩;refine bQ 2 [8,9] [0,1,2,3,4,5,7,3006,1008,1009,10,11] E I λa w E I hH hC=>?_;refine RH 3 E I hH hC λa E=>?_;refine E.by (s:=26) (λbA E=>?_) (λbA E=>?_)
 ·
  refine RH 9 E I hH hC λa E=>?_;refine IF 0 E I (λao a E=>?_) λao a E=>?_
  ·
   obtain⟨o,ho⟩:∃ o,p.ops[aT]?=some o:=⟨_,aE (by omega)⟩;have aS:=DQ (p:=p) (fr:=fr) (b:=b) (g:=g') (n:=200-(n+1)) ho;rw[show 200-(n+1)+1=200-n from by omega]at aS;refine jP 6 E I (V9 (M:=M) (L:=aa b4 45 (bP p aq cO)::L) (I.sub (M:=aa xS 336 (hK p aq cO t ad fr adP b.length cP aT)::J g' fo::aA W p aq cO::aa b4 45 (bP p aq cO)::L)) a6.2 ho aG (by omega) hb (λw' h=>hp w' h.tail)) ?_;clear E I;rintro e w ⟨iA,xR,z6,r2,rfl,fM,Wb,I⟩;refine⟨_,rfl,λa E=>?_⟩;refine IF 1 E I (λay a E=>?_) λay a E=>?_
   ·
    have vw:r2=false:=by simpa using ay
    have DS:z6=false→bad=false∧iA=e0 p fr b g:=λh=>by
     obtain⟨h1,h2⟩:=fM h;obtain⟨h3,h4⟩:=ou h1;refine⟨h3,?_⟩;rw[aS,h2,vw]at h4;exact h4
    refine RT 3 E I ?_;exact⟨iA,z6,_,rfl,DS,I.sub⟩
   have po:r2=true:=by simpa using ay
   refine RN 0 E I λa E=>?_;refine⟨200-(n+1),by omega,n+1,xR,iA,z6,⟨rfl,by omega,Wb,λh=>?_⟩,E.ab [4,9,10],I.sub⟩;obtain⟨h1,h2⟩:=fM h;obtain⟨h3,h4⟩:=ou h1;refine⟨h3,?_⟩;rw[aS,h2,po]at h4;exact h4
  refine RT 3 E I ?_;refine⟨g',fo,_,rfl,λh=>?_,I.sub⟩;obtain⟨h3,h4⟩:=ou h;rw[DR (by omega)]at h4;exact⟨h3,h4⟩
 have pv:n=200:=by omega
 refine RH 9 E I hH hC λa E=>?_;refine RT 4 E I ?_;refine⟨g',fo,_,rfl,λh=>?_,I.sub⟩;obtain⟨h3,h4⟩:=ou h;rw[pv]at h4;exact⟨h3,h4⟩
end
end
section
def distinct:List Nat→Nat
 | []=>0
 | x::l=>distinct l+if x∈l then 0 else 1
def kT (l:List aC):List Nat:=l.flatMap λx=>[x.p 0,x.p 1,x.p 2,x.p 3]
theorem We {l:List aC}{p:Nat}:p∈kT l↔0<cQ l p:=by
 induction l with
 | nil=>simp[kT,cQ]
 | cons x l ih =>
  rw[sr];have h1:kT (x::l)=[x.p 0,x.p 1,x.p 2,x.p 3]++kT l:=rfl;rw[h1,eP,ih];constructor
  ·rintro (h | h)
   ·have h2 : 0 < hs x p := IA.2 (by
     simp at h;rcases h with h | h | h | h
     ·exact⟨0,by omega,h.symm⟩
     ·exact⟨1,by omega,h.symm⟩
     ·exact⟨2,by omega,h.symm⟩
     ·exact⟨3,by omega,h.symm⟩)
    omega
   ·omega
  ·intro h;by_cases h2:0<hs x p
   ·left;obtain⟨k,hk,rfl⟩:=IA.1 h2;rcases (by omega:k=0∨k=1∨k=2∨k=3) with rfl | rfl | rfl | rfl <;> simp
   ·right;omega
theorem Wf (n:Nat)(f:Nat→Bool)(x:Nat)(hx:x<n)(h0:f x=false):(List.range n).countP (λp=>p==x||f p)=(List.range n).countP f+1:=by
 induction n with
 | zero=>omega
 | succ n ih =>
  rw[range_succ,List.countP_append,List.countP_append,List.countP_singleton,List.countP_singleton];by_cases hn:x=n
  ·subst hn;have:(List.range x).countP (λp=>p==x||f p)=(List.range x).countP f:=countP_congr λp hp=>by
    have:p<x:=mem_range.1 hp;have h2:(p==x)=false:=by simp;omega
    simp[h2]
   rw[this,h0];simp
  ·have h2:(n==x)=false:=by simp;omega
   rw[ih (by omega),h2];simp;omega
theorem JG (n:Nat):∀ l:List Nat,(∀ p∈l,p<n)→(List.range n).countP (λp=>decide (p∈l))=distinct l
 | [],_=>by simp[distinct]
 | x::l,h=>by
  have ih:=JG n l λp hp=>h p (gM _ hp);rw[distinct,← ih];by_cases hx:x∈l
  ·rw[ak hx,Nat.add_zero];refine countP_congr λp _=>?_;simp only[List.mem_cons,decide_eq_true_eq];exact⟨λhp=>by rcases hp with rfl | hp;exact hx;exact hp,λhp=>.inr hp⟩
  ·rw[ag hx];have:=Wf n (λp=>decide (p∈l)) x (h x mem_cons_self) (by simp[hx]);rw[← this];refine countP_congr λp _=>?_;simp
theorem Wg {A:Sn}(h:∀ x∈A.ar,∀ k,k<4→x.p k<A.room):A.used=distinct (kT A.ar):=by
 rw[← JG A.room (kT A.ar) (λp hp=>?_)]
 ·rw[Sn.used];refine countP_congr λp _=>?_;simp[We]
 ·simp only[kT,List.mem_flatMap]at hp;obtain⟨x,hx,hp⟩:=hp;simp at hp;rcases hp with rfl | rfl | rfl | rfl <;> exact h x hx _ (by omega)
section
variable {W w:World}{L R:List SP}{q r:Nat}{A:Sn}
class vN (L:List SP)(q:Nat)(r:outParam Nat)(A:outParam Sn)(R:outParam (List SP)):Prop where perm:L.Perm (ax q r A::R)
instance vN.head {L q r A}:vN (ax q r A::L) q r A L:=⟨List.Perm.refl _⟩
instance (priority:=low) vN.tail {B L q r A R}[h:vN L q r A R]:vN (B::L) q r A (B::R):=⟨(List.Perm.cons B h.perm).trans (List.Perm.swap _ _ _)⟩
theorem U.store (I:U W w L)(q:Nat)[k:vN L q r A R]:U W w (ax q r A::R):=I.perm k.perm
theorem ax.facts (I:U W w (ax q r A::L)):WF A∧∀ x∈A.ar,∀ k,k<4→x.p k<A.room:=by
 obtain⟨b,m,ps,xs,h1,hw,hr,I⟩:=ax.open I;exact⟨hw,λx hx k hk=>by rw[← hr.len];exact (hr.live hx hk).1⟩
theorem ax.used (I:U W w (ax q r A::L)):A.used=distinct (kT A.ar):=Wg (ax.facts I).2
end
end
section
theorem Wh (l:List aC)(p:Nat):(kT l).count p=cQ l p:=by
 induction l with
 | nil=>rfl
 | cons x l ih =>
  have h1:kT (x::l)=[x.p 0,x.p 1,x.p 2,x.p 3]++kT l:=rfl;rw[h1,List.count_append,ih,sr,tJ];simp only[List.count_cons,List.count_nil,beq_iff_eq];omega
theorem JH (p:Nat):∀ l:List Nat,distinct l+(l.count p-1)≤l.length
 | []=>by simp[distinct]
 | x::l=>by
  have ih:=JH p l;rw[distinct,List.count_cons,eO];by_cases hx:x=p
  ·subst hx;by_cases hm:x∈l
   ·have:=List.count_pos_iff.2 hm;simp[hm];omega
   ·have:=List.count_eq_zero.2 hm;simp[hm];omega
  ·have h1:(x==p)=false:=by simpa using hx
   simp only[h1,Bool.false_eq_true,if_false,Nat.add_zero];split <;> omega
theorem Wi (l:List aC):(kT l).length=4*l.length:=by
 induction l with
 | nil=>rfl
 | cons x l ih =>
  have h1:kT (x::l)=[x.p 0,x.p 1,x.p 2,x.p 3]++kT l:=rfl;rw[h1,aL,ih,eO];simp;omega
section
variable {W w:World}{L:List SP}{q r i bc:Nat}{A:Sn}{x px:aC}
theorem ax.shared (I:U W w (ax q r A::L)){p:Nat}(h:1<cQ A.ar p):A.used<4*A.ar.length:=by
 have h1:=JH p (kT A.ar);rw[← ax.used I,Wh,Wi]at h1;omega
theorem Wj {c:Nat}{v:Int}(I:U W w (ax q r A::L))(hx:A.ar[i]?=some x)(hc:c<32) :
   Calls prog 346 #[pt q,.int .i64 x.id,.int .i64 c,.int .i32 v] w λe w'=>∃ (ok:Bool) (p':Nat→Nat),e=.returned (.bool ok)∧(ok=false→¬ 4*A.ar.length≤A.room) ∧
    ((ok=true∧U W w' (ax q r { A with ar:=A.ar.set i { x with g:=ck x.g c v,p:=p' } }::L))∨(ok=false∧U W w' (ax q r A::L))):=by
 have ov:c/8<4:=by omega
 by_cases h1:1<cQ A.ar (x.p (c/8))
 ·by_cases hu:A.used<A.room
  ·exact (Uq (v:=v) I hx hc h1 hu).mono λe w' ⟨f,h2,_,I⟩=>⟨true,λj=>if j=c/8 then f else x.p j,h2,λh=>(by cases h),.inl ⟨rfl,I⟩⟩
  ·have hsh:=ax.shared I h1;exact (Ur (v:=v) I hx hc h1 (by omega)).mono λe w' ⟨h2,I⟩=>⟨false,x.p,h2,λ_=>by omega,.inr ⟨rfl,I⟩⟩
 ·have h3 : cQ A.ar (x.p (c / 8)) = 1 := by
   have h4:=tK (bH hx) (x.p (c/8));have h5:=so (x:=x) ov;omega
  exact (Uo (v:=v) I hx hc h3).mono λe w' ⟨h2,I⟩=>⟨true,x.p,h2,λh=>(by cases h),.inl ⟨rfl,I⟩⟩
theorem Wl {g:Nat→Int}{c:Nat}{v:Int}(h:dO g)(hv:dk v):dO (ck g c v):=λj hj=>by
 simp only[ck];split
 ·exact hv
 ·exact h j hj
def Jw (q r bc i:Nat)(A:Sn)(px:aC)(g:Nat→Int)(bad:Bool):SP:=λh=>∃ p':Nat→Nat,(dO g∧(bad=true→¬ 4*A.ar.length≤A.room)) ∧
 cn [aa bc 307 [pt q,.int .i64 px.id,.bool bad],ax q r { A with ar:=A.ar.set i ⟨px.id,px.refs,g,p'⟩ }] h
theorem Jw.open {g:Nat→Int}{bad:Bool}(I:U W w (Jw q r bc i A px g bad::L)):∃ p':Nat→Nat,(dO g∧(bad=true→¬ 4*A.ar.length≤A.room)) ∧
   U W w (aa bc 307 [pt q,.int .i64 px.id,.bool bad]::ax q r { A with ar:=A.ar.set i ⟨px.id,px.refs,g,p'⟩ }::L):=by
 obtain⟨p',h1,h2⟩:=I.jy (ι:=Nat→Nat) (p:=λ_=>dO g∧(bad=true→¬ 4*A.ar.length≤A.room)) (B:=λp' h=>cn [aa bc 307 [pt q,.int .i64 px.id,.bool bad],ax q r { A with ar:=A.ar.set i ⟨px.id,px.refs,g,p'⟩ }] h) (λh ⟨p',h1,h2⟩=>⟨p',h1,h2⟩);exact⟨p',h1,h2.open λ_ h=>h⟩
theorem Jw.close {g:Nat→Int}{bad:Bool}{p':Nat→Nat}(I:U W w (aa bc 307 [pt q,.int .i64 px.id,.bool bad]::ax q r { A with ar:=A.ar.set i ⟨px.id,px.refs,g,p'⟩ }::L))(h1:dO g)(h2:bad=true→¬ 4*A.ar.length≤A.room) :
   U W w (Jw q r bc i A px g bad::L):=U.shut (M:=[_,_]) I (λ_ x=>⟨p',⟨h1,h2⟩,x⟩)
theorem Wm {g:Nat→Int}{bad:Bool}{c:Nat}(hx:i<A.ar.length)(hc:c<32)(I:U W w (Jw q r bc i A px g bad::L)) :
   Calls prog 353 (List.toArray [pt bc,.int .i64 c]) w λe w'=>e=.returned (.int .i32 (g c))∧U W w' (Jw q r bc i A px g bad::L):=by
 obtain⟨p',⟨h1,h2⟩,I⟩:=Jw.open I;refine EN func353 ntmps353 rfl rfl λa E=>?_;refine bQ 3 [7] [0,1,2,4,5,6,8,3003,1007,1009,10,11,12,13,14] E I λa w E I hH hC=>?_;refine RH 9 E I hH hC λa E=>?_;refine CL 0 E I (II (i:=i) (x:=⟨px.id,px.refs,g,p'⟩) (I.store q) (by simp[hx]) hc) λa w E I=>?_;refine RN 5 E I λa E=>?_;refine RT 3 E I ?_;exact⟨rfl,Jw.close (p':=p') I.sub h1 h2⟩
theorem Wn {g:Nat→Int}{bad:Bool}{c:Nat}{v:Int}(hx:i<A.ar.length)(hc:c<32)(hv:dk v)(I:U W w (Jw q r bc i A px g bad::L)) :
   Calls prog 354 (List.toArray [pt bc,.int .i64 c,.int .i32 v]) w λe w'=>∃ (g':Nat→Int) (fo:Bool),e=.returned (.tuple #[])∧((fo=true∧g'=g)∨(fo=false∧bad=false∧g'=ck g c v))∧U W w' (Jw q r bc i A px g' fo::L):=by
 obtain⟨p',⟨h1,h2⟩,I⟩:=Jw.open I;refine EN func354 ntmps354 rfl rfl λa E=>?_;refine bQ 0 [13] [0,1,2,3,1004,5,6,7,8,10,11,12,14,15,3009,1013,1016,17,18,19,20,1021] E I λa w E I hH hC=>?_;refine RH 6 E I hH hC λa E=>?_;refine E.by (s:=11) (λiR E=>?_) (λiR E=>?_)
 ·
  refine RH 15 E I hH hC λa E=>?_;refine ST 0 E I (λa w E I=>?_);refine RT 0 E I ?_;exact⟨g,true,rfl,.inl ⟨rfl,rfl⟩,Jw.close (p':=p') I.sub h1 (λ_=>h2 iR)⟩
 refine RH 10 E I hH hC λa E=>?_;refine aY 0 E I (Wj (i:=i) (x:=⟨px.id,px.refs,g,p'⟩) (v:=v) (I.store q) (by simp[hx]) hc) λok p2 a w E ⟨dj,Wo⟩=>?_;obtain⟨IV,I⟩:(ok=ok)∧U W w (ax q r { A with ar:=A.ar.set i ⟨px.id,px.refs,if ok then ck g c v else g,if ok then p2 else p'⟩ }::aa bc 307 [pt q,.int .i64 px.id,.bool bad]::L):=by
  refine⟨rfl,?_⟩;rcases Wo with ⟨rfl,I⟩ | ⟨rfl,I⟩
  ·simp only[set_set]at I;exact I
  ·exact I
 refine ST 4 E I (λa w E I=>?_);refine RT 0 E I ?_;refine⟨if ok then ck g c v else g,!ok,rfl,?_,Jw.close (p':=if ok then p2 else p') I.sub ?_ (λh=>?_)⟩
 ·cases ok
  ·exact .inl ⟨rfl,rfl⟩
  ·exact .inr ⟨rfl,iR,rfl⟩
 ·cases ok
  ·exact h1
  ·exact Wl h1 hv
 ·have:=dj (by simpa using h);simpa using this
theorem Wp (hx:i<A.ar.length):xO W 305 ⟨bc,0,none⟩ 353 354 (Jw q r bc i A px) where
 oj:=λad w=>by kernel_rfl
 om:=(by kernel_rfl)
 zZ:=λad w=>by kernel_rfl
 vq:=(by kernel_rfl)
 ok:=λw L g bad h=>by obtain⟨_,⟨h1,_⟩,_⟩:=Jw.open h;exact h1
 get:=λw L g bad c hc h=>Wm hx hc h
 set:=λw L g bad c v hc hv h=>Wn hx hc hv h
end
end
section
abbrev cx (p:Pr)(aq:Option Addr)(cO tq jq sq:Nat)(k:Wk):List Value :=
 [.string p.title,.slice aq p.ops.length cO,pt tq,pt jq,pt sq,.bool k.busy,.int .i64 k.jb,.int .i64 k.je,.int .i64 k.x,.int .i64 k.done,.bool k.mm]
section
variable {W w:World}{L:List SP}{tq jq sq r wb i kk cO:Nat}{aq:Option Addr}{A:Sn}{T:Tr}{J:Js}{k:Wk}{p:Pr}{x:Br}{px:aC}
theorem JI (I:U W w (aa wb 247 (cx p aq cO tq jq sq k)::L)) :
   Calls prog 184 #[pt wb] w λe w'=>e=.returned (.bool k.busy)∧U W w' (aa wb 247 (cx p aq cO tq jq sq k)::L):=by
 refine EN func184 ntmps184 rfl rfl λa E=>?_;refine RN 6 E I λa E=>?_;replace E:=E.eh 5;refine RT 6 E I ?_;exact⟨rfl,I⟩
theorem xT (I:U W w (aa wb 247 (cx p aq cO tq jq sq k)::ax sq r A::L))(hb:k.busy=true) :
   Calls prog 145 #[pt wb] w λe w'=>e=.returned (.bool true)∧U W w' (aa wb 247 (cx p aq cO tq jq sq { k with busy:=false })::ax sq r (A.et k.x)::L):=by
 refine EN func145 ntmps145 rfl rfl λa E=>?_;refine CL 5 E I (JI I) λa w E I=>?_;rw[hb]at E;refine RN 1 E I λa E=>?_;replace E:=E.aM 5;refine bQ 2 [7] [0,1,2,4,5,6,3003,1007,1008] E I λa w E I hH hC=>?_;refine RH 8 E I hH hC λa E=>?_;refine bh 0 E I (zP (I.store sq)) λv a w E I=>?_;refine ST 4 E I (λa w E I=>?_) (hlt:=(by simp[cx]));change U W w (aa wb 247 (cx p aq cO tq jq sq { k with busy:=false })::_) at I;refine RT 2 E I ?_;exact⟨rfl,I.sub⟩
theorem JJ (I:U W w (aa wb 247 (cx p aq cO tq jq sq k)::L))(hb:k.busy=false) :
   Calls prog 145 #[pt wb] w λe w'=>e=.returned (.bool false)∧U W w' (aa wb 247 (cx p aq cO tq jq sq k)::L):=by
 refine EN func145 ntmps145 rfl rfl λa E=>?_;refine CL 5 E I (JI I) λa w E I=>?_;rw[hb]at E;refine RN 1 E I λa E=>?_;replace E:=E.eh 5;refine RT 3 E I ?_;exact⟨rfl,I⟩
theorem z7 {id:Int}(I:U W w (Tree tq sq T::L)) :
   Calls prog 143 #[pt tq,.int .i64 id] w λe w'=>∃ (x:Br) (ad:Option Addr) (c:Nat) (ok:Bool),e=.returned (.tuple #[.agg (ch x ad c).toArray,.bool ok])∧((ok=true∧x∈T.l∧(x.id:Int)=id)∨(ok=false∧∀ y∈T.l,(y.id:Int)≠id)) ∧
    U W w' (cg ad x.al.length c x.al::Tree tq sq T::L):=by
 by_cases h:∃ x∈T.l,(x.id:Int)=id
 ·obtain⟨x,hx,rfl⟩:=h;obtain⟨k,hk⟩:=jS.1 hx;exact (xw I hk).mono λe w' ⟨ad,c,h1,I⟩=>⟨x,ad,c,true,h1,.inl ⟨rfl,hx,rfl⟩,I⟩
 ·have hn:∀ y∈T.l,(y.id:Int)≠id:=λy hy e=>h ⟨y,hy,e⟩;exact (UM I hn).mono λe w' ⟨h1,I⟩=>⟨⟨0,0,[],0,0⟩,none,0,false,h1,.inr ⟨rfl,hn⟩,cg.nil I⟩
theorem Wq {id:Nat}(I:U W w (ax sq r A::L))(hx:A.ar[i]?=some px)(b6:px.id=id)(hb:A.n+1<1099511627776) :
   Calls prog 181 #[pt sq,.int .i64 id] w λe w'=>e=.returned (.tuple #[.int .i64 ((A.last+1:Nat):Int),.bool true])∧U W w' (ax sq r (A.add px.g px.p)::L):=by
 subst b6;exact IL I hx hb
theorem Wr {d:Nat}{id:Nat}(I:U W w (Tree tq sq T::ax sq r A::L))(hx:T.l[kk]?=some x)(jh:d≤x.al.length)(hp:A.ar[i]?=some px)(b6:px.id=id) :
   Calls prog 186 #[pt tq,.int .i64 x.id,.int .i64 d,.int .i64 id] w λe w'=>e=.returned (.bool (decide (x.done<d))) ∧
    ((x.done<d∧U W w' (Tree tq sq (T.iC kk x d id)::ax sq r (A.et x.snap)::L))∨(d≤x.done∧U W w' (Tree tq sq T::ax sq r A::L))):=by
 subst b6;by_cases h:x.done<d
 ·exact (UT I hx h jh hp).mono λe w' ⟨h1,I⟩=>⟨by rw[h1,dg h],.inl ⟨h,I⟩⟩
 ·exact (UR (d:=(d:Int)) (i:=i) (px:=px) I hx (.inl (by omega))).mono λe w' ⟨h1,I⟩=>⟨by rw[h1,bq h],.inr ⟨by omega,I⟩⟩
theorem Ws {A:Sn}{i:Nat}{px:aC}{g:Nat→Int}{p':Nat→Nat}(hA:WF A)(hB:WF { A with ar:=A.ar.set i ⟨px.id,px.refs,g,p'⟩ })(hi:A.ar[i]?=some px)(hr:px.refs=1) :
   ({ A with ar:=A.ar.set i ⟨px.id,px.refs,g,p'⟩ }:Sn).et px.id=A.et px.id:=by
 have hl:=(a2.1 hi).1;rw[xA hA hi,xA (px:=⟨px.id,px.refs,g,p'⟩) hB (i:=i) (by simp[hl])];simp[Sn.drop,hr,eraseIdx_set_eq]
theorem Wt (I:U W w (aa wb 247 (cx p aq cO tq jq sq k)::Tree tq sq T::ax sq r A::bI jq J::L))(hb:k.busy=false)(Wu:∀ x∈T.l,∃ (i:Nat) (px:aC),A.ar[i]?=some px∧px.id=x.snap)(hn:A.n+1<1099511627776) :
   Calls prog 142 #[pt wb] w λe w'=>∃ (z:Bool) (A':Sn) (J':Js) (k':Wk),e=.returned (.bool z)∧lk p A T J k z A' T J' k' ∧
    U W w' (aa wb 247 (cx p aq cO tq jq sq k')::Tree tq sq T::ax sq r A'::bI jq J'::L):=by
 refine EN func142 ntmps142 rfl rfl λa E=>?_;refine CL 7 E I (Vs (I.tU jq)) λa w E I=>?_;refine AL 3 E I λb3 a w E I=>?_;refine SA 0 E I λa w E I=>?_;refine IF 5 E I (λaj a E=>?_) λaj a E=>?_
 ·
  obtain rfl:J=[]:=by simpa using aj
  change U W w (aa b3 245 [.int .i64 0,.int .i64 0]::bI jq []::_) at I;refine RT 2 E I ?_;exact⟨false,A,[],k,rfl,.idle hb rfl,I.sub⟩
 obtain⟨j,J',rfl⟩:∃ j J',J=j::J':=by
  cases J with
  | nil=>simp at aj
  | cons j J'=>exact⟨j,J',rfl⟩
 change U W w (aa b3 245 [.int .i64 j.1,.int .i64 j.2]::bI jq J'::_) at I;replace E:=E.ab [0,3];clear aj;refine RN 0 E I λa E=>?_;refine cc (M:=λa w=>∃ (b5:Nat) (x:Br) (ad:Option Addr) (c:Nat) (ok:Bool),((ok=true∧x∈T.l∧(x.id:Int)=j.1)∨(ok=false∧∀ y∈T.l,(y.id:Int)≠j.1))∧Fr a 85 [(0,pt wb),(3,pt b3),(5,pt b5),(6,.bool ok)]∧U W w (aa b5 238 (ch x ad c)::aa b3 245 [.int .i64 j.1,.int .i64 j.2]::bI jq J'::aa wb 247 (cx p aq cO tq jq sq k)::Tree tq sq T::ax sq r A::L)) ?_ ?_
 ·
  refine aV 0 (λw0 w'=>Rd w' wb 0 (cx p aq cO tq jq sq k)∧Rd w' b3 0 [.int .i64 j.1,.int .i64 j.2]) [5,10] [0,1,2,4,3003,3005,2006,7,8,9,1010,1011,12] E I λa w E I hH=>?_;have hC:=hH.at w (And.intro I.ai I.ai);refine RH 4 E I hH hC λa E=>?_;refine QH E (λw hc=>ae E (hc.1 2 _ rfl)) hC λa E=>?_;refine QH E (λw hc=>ae E (hc.2 0 _ rfl)) hC λa E=>?_;refine RH 0 E I hH hC λa E=>?_;refine DN [(6,[7,8,9,1010,1011,12]),(10,[1006,7,8,9,1011,12])] (by kernel_rfl) rfl ⟨⟨_,rfl,?_⟩,⟨_,rfl,?_⟩,trivial⟩
  ·
   refine RH 0 E I hH hC λa E=>?_;refine jP 0 E I (z7 (id:=j.1) (I.tree tq)) ?_;clear E I;rintro e w ⟨x,ad,c,ok,rfl,dj,I⟩;refine⟨_,rfl,λa E=>?_⟩;refine RN 3 E I λa E=>?_;refine eV E rfl I Ty.t238 rfl λb5 a w E I ho=>?_;clear ho;replace hC:=hH.at w (And.intro I.ai I.ai);refine RH 0 E I hH hC λa E=>?_;refine SA 0 E I λa w E I=>?_;refine RN 1 E I λa E=>?_;exact⟨_,x,ad,c,ok,dj,E.ab [0,3,5,6],I.sub⟩
  refine RH 0 E I hH hC λa E=>?_;refine eV E rfl I Ty.t238 rfl λb5 a w E I ho=>?_;clear ho;replace hC:=hH.at w (And.intro I.ai I.ai);refine RH 0 E I hH hC λa E=>?_;refine jP 0 E I (z7 (id:=j.1) (I.tree tq)) ?_;clear E I;rintro e w ⟨x,ad,c,ok,rfl,dj,I⟩;refine⟨_,rfl,λa E=>?_⟩;refine SA 3 E I λa w E I=>?_;refine RN 1 E I λa E=>?_;exact⟨_,x,ad,c,ok,dj,E.ab [0,3,5,6],I.sub⟩
 clear E;(try clear I);rintro a w ⟨b5,x,ad,c,ok,dj,E,I⟩;refine aV 2 (λw0 w'=>Rd w' wb 0 (cx p aq cO tq jq sq k)∧Rd w' b3 0 [.int .i64 j.1,.int .i64 j.2]∧Rd w' b5 0 (ch x ad c)) [5,6,16,17] [0,2,3,4,3001,1005,1006,7,8,9,10,11,12,13,15,3014,1016,1017,18,19] E I λa w E I hH=>?_;have hC:=hH.at w ⟨I.ai,I.ai,I.ai⟩;refine RH 4 E I hH hC λa E=>?_;refine QH E (λw hc=>ae E (hc.2.1 1 _ rfl)) hC λa E=>?_;refine RH 1 E I hH hC λa E=>?_;refine CL 0 E I (zM (I.tree tq)) λa w E I=>?_;replace hC:=hH.at w ⟨I.ai,I.ai,I.ai⟩;refine RH 2 E I hH hC λa E=>?_;refine E.by (s:=36) (λfa E=>?_) (λfa E=>?_)
 ·
  refine RH 11 E I hH hC λa E=>?_;refine RT 3 E I ?_;exact⟨true,A,J',k,rfl,.xE hb rfl (.inl fa),I.sub⟩
 refine RH 4 E I hH hC λa E=>?_;refine E.by (s:=40) (λhY E=>?_) (λhY E=>?_)
 ·
  have bR:∀ y∈T.l,(y.id:Int)≠j.1:=by
   rcases dj with ⟨h,_⟩ | ⟨_,h⟩
   ·rw[h]at hY;cases hY
   ·exact h
  refine RH 7 E I hH hC λa E=>?_;refine RT 3 E I ?_;exact⟨true,A,J',k,rfl,.xE hb rfl (.inr (.inl bR)),I.sub⟩
 obtain⟨hx,b6⟩:x∈T.l∧(x.id:Int)=j.1:=by
  rcases dj with ⟨_,h⟩ | ⟨h,_⟩
  ·exact h
  ·rw[h]at hY;cases hY
 refine RH 2 E I hH hC λa E=>?_;refine QH E (λw hc=>ae E (hc.2.2 3 _ rfl)) hC λa E=>?_;refine RH 0 E I hH hC λa E=>?_;refine bo E (b7 E rfl (s:=40)) (ae E (hC.2.2 2 _ rfl)) rfl λa E=>?_;refine RH 3 E I hH hC λa E=>?_;refine IF 0 E I (λao a E=>?_) λao a E=>?_
 ·
  refine RT 2 E I ?_;exact⟨true,A,J',k,rfl,.xE hb rfl (.inr (.inr ⟨x,hx,b6,by omega⟩)),I.sub⟩
 refine RN 1 E I λa E=>?_;obtain⟨i,px,hJ,kU⟩:=Wu x hx;refine aV 0 (λw0 w'=>Rd w' wb 0 (cx p aq cO tq jq sq k)∧Rd w' b5 0 (ch x ad c)) [5] [0,1,2,4,3003,1005,1006,7,8,9,10,11] E I λa w E I hH=>?_;have hC:=hH.at w ⟨I.ai,I.ai⟩;refine RH 4 E I hH hC λa E=>?_;refine QH E (λw hc=>ae E (hc.1 4 _ rfl)) hC λa E=>?_;refine RH 0 E I hH hC λa E=>?_;refine SS E (ae E (hC.2 4 _ rfl)) λa E=>?_;refine RH 0 E I hH hC λa E=>?_;refine CL 0 E I (Wq (I.store sq) hJ kU hn) λa w E I=>?_;refine RN 5 E I λa E=>?_;refine RN 4 E I λa E=>?_;replace E:=E.aM 59;refine aV 2 (λw0 w'=>Rd w' b3 0 [.int .i64 j.1,.int .i64 j.2]∧Rd w' b5 0 (ch x ad c)) [8,11,12,13,14,15,16,17] [0,1,2,3,4,6,7,9,10,3005,3008,1011,1012,1013,1014,1015,1016,1017,18,19,1020,21,22,1023] E I λa w E I hH=>?_;have hC:=hH.at w ⟨I.ai,I.ai⟩;refine RH 9 E I hH hC λa E=>?_;refine QH E (λw hc=>bS E underlying245 rfl Ty.t245 (hc.1)) hC λa E=>?_;refine QH E (λw hc=>ae E (hc.2 3 _ rfl)) hC λa E=>?_;refine RH 0 E I hH hC λa E=>?_;refine ST 0 E I (λa w E I=>?_) (hlt:=(by simp[cx]));replace hC:=hH.at w ⟨I.ai,I.ai⟩;refine RH 2 E I hH hC λa E=>?_;refine qK E rfl I Ty.t245 (by simp[Value.oneCell']) (by simp[cx]) λa w E I=>?_;replace hC:=hH.at w ⟨I.ai,I.ai⟩;refine RH 2 E I hH hC λa E=>?_;refine ST 0 E I (λa w E I=>?_) (hlt:=(by simp[cx,cG]));replace hC:=hH.at w ⟨I.ai,I.ai⟩;refine RH 2 E I hH hC λa E=>?_;refine ST 0 E I (λa w E I=>?_) (hlt:=(by simp[cx,cG]));refine ST 2 E I (λa w E I=>?_) (hlt:=(by simp[cx,cG]));refine RN 0 E I λa E=>?_;change U W w (aa wb 247 (cx p aq cO tq jq sq ⟨true,j.1,j.2,A.last+1,x.done,false⟩)::_) at I;refine RT 2 E I ?_;exact⟨true,A.add px.g px.p,J',⟨true,j.1,j.2,A.last+1,x.done,false⟩,rfl,.Ds hb rfl fa hx b6 (by omega) hJ kU,I.sub⟩
theorem Wv {ad:Option Addr}{c:Nat}(I:U W w (aa wb 247 (cx p aq cO tq jq sq k)::cg ad x.al.length c x.al::Tree tq sq T::ax sq r A::bI jq J::aA W p aq cO::L))
   (hb:k.busy=true) (he:k.je=T.epoch) (hx:x∈T.l) (b6:(x.id:Int)=k.jb) (eB:k.mm=false) (hi:A.ar[i]?=some px) (xU:px.id=k.x) (hr:px.refs=1) (hg:dO px.g) (hd:k.done<x.al.length) (hf:0≤x.frm∧x.frm≤1099511627776)
   (a6:dh p) (aG:p.title.size≤1000000000) (kz:J.length≤16) :
   Calls prog 146 #[pt wb,.agg (ch x ad c).toArray] w λe w'=>∃ (A':Sn) (J':Js) (k':Wk),e=.returned (.tuple #[])∧lk p A T J k true A' T J' k' ∧
    U W w' (aa wb 247 (cx p aq cO tq jq sq k')::Tree tq sq T::ax sq r A'::bI jq J'::aA W p aq cO::L):=by
 have kV:=Tree.wt (I.tree tq);have hA:=(ax.facts (I.store sq)).1;have z8:=(kV.ok x hx).1;have aH:=(a2.1 hi).1;have mn:x.al.length≤65536:=z8.1;refine EN func146 ntmps146 rfl rfl λa E=>?_;refine BX 1 E I λb3 a w E I=>?_;change U W w (aa b3 238 (ch x ad c)::_) at I;refine bQ 1 [7] [0,1,2,4,5,6,3003,1007,8,1009,10] E I λa w E I hH hC=>?_;refine RH 9 E I hH hC λa E=>?_;refine w6 E rfl I rfl λeJ a w E I ho=>?_;replace hC:=hC.trans ho;clear ho;change U W w (aa eJ 307 [pt sq,.int .i64 k.x,.bool false]::_) at I;refine RH 1 E I hH hC λa E=>?_;refine RN 1 E I λa E=>?_;obtain⟨zs,hz,iY,I⟩:=cg.open (I.pick (cg ad x.al.length c x.al));obtain⟨bb,oo,rfl,c4⟩:=I.drew.bV ad (by omega);have JK:zs.length=x.al.length:=by rw[← hz,bd]
 have JL:zs[k.done]?=some (zs[k.done]'(by omega)):=aE (by omega);have JM:x.al[k.done]?=some (zs[k.done]'(by omega)).2.2:=by rw[← hz,bm,JL];rfl
 have mf:=c4 k.done _ (by rw[bm,JL];rfl);have DT:Rd w.drew wb 0 (cx p aq cO tq jq sq k):=I.drew.ai;have ln:Rd w.drew wb 0 (bP p aq cO):=DT.part 0 2;have JN:Rd w.drew b3 0 (ch x (some ⟨bb,oo,none⟩) c):=I.drew.ai;have Ww:(zs[k.done]'(by omega)).2.2.length≤1099511627776:=z8.2 _ (bH JM);refine qU 0 (λw'=>Rd w' wb 0 (cx p aq cO tq jq sq k)∧Rd w' wb 0 (bP p aq cO)∧Rd w' b3 0 (ch x (some ⟨bb,oo,none⟩) c)∧w'.cell? ⟨bb,oo+k.done,none⟩=some (aK (zs[k.done]'(by omega)))) [5,7,11,12,14,18,19,20] [0,1,2,4,6,8,9,10,13,15,16,17,3003,3007,3011,3012,3014,3018,3019,3020,1005,1021] E I λa E=>?_;replace I:=I.drew;generalize w.drew=w at I mf DT ln JN ⊢;have hC:=And.intro DT (And.intro ln (And.intro JN mf));have hH:=Hd.any (λw'=>Rd w' wb 0 (cx p aq cO tq jq sq k)∧Rd w' wb 0 (bP p aq cO)∧Rd w' b3 0 (ch x (some ⟨bb,oo,none⟩) c)∧w'.cell? ⟨bb,oo+k.done,none⟩=some (aK (zs[k.done]'(by omega))));refine RH 12 E I hH hC λa E=>?_;refine QH E (λw hc=>bS E underlying45 rfl Ty.t45 (hc.2.1)) hC λa E=>?_;refine QH E (λw hc=>ae E (hc.2.2.1 1 _ rfl)) hC λa E=>?_;refine QH E (λw hc=>ae E (hc.1 9 _ rfl)) hC λa E=>?_;refine RH 1 E I hH hC λa E=>?_;refine QH E (λw hc=>ae E (hc.2.2.1 2 _ rfl)) hC λa E=>?_;refine QH E (λw hc=>ae E (hc.1 9 _ rfl)) hC λa E=>?_;refine RH 1 E I hH hC λa E=>?_;refine QH E (λw hc=>ae E (hc.2.2.2)) hC λa E=>?_;refine RH 1 E I hH hC λa E=>?_;have du:U W w (ax sq r { A with ar:=A.ar.set i ⟨px.id,px.refs,px.g,px.p⟩ }::aa eJ 307 [pt sq,.int .i64 k.x,.bool false]::aA W p aq cO::Sl 22 1 (some ⟨bb,oo,none⟩) x.al.length c (zs.map aK)::ah a8 zs::aa wb 247 (cx p aq cO tq jq sq k)::aa b3 238 (ch x (some ⟨bb,oo,none⟩) c)::Tree tq sq T::bI jq J::L):=by
  rw[show ({ A with ar:=A.ar.set i ⟨px.id,px.refs,px.g,px.p⟩ }:Sn)=A from by rw[← xv hi]];exact I.sub
 rw[← xU]at du;have tI:=Jw.close (i:=i) (A:=A) (px:=px) (g:=px.g) (bad:=false) (p':=px.p) (du.sub (M:=aa eJ 307 [pt sq,.int .i64 px.id,.bool false]::ax sq r { A with ar:=A.ar.set i ⟨px.id,px.refs,px.g,px.p⟩ }::aA W p aq cO::Sl 22 1 (some ⟨bb,oo,none⟩) x.al.length c (zs.map aK)::ah a8 zs::aa wb 247 (cx p aq cO tq jq sq k)::aa b3 238 (ch x (some ⟨bb,oo,none⟩) c)::Tree tq sq T::bI jq J::L)) hg (λh=>by cases h);refine jO 0 E I (JF (M:=Wp (W:=W) (q:=sq) (r:=r) (bc:=eJ) (A:=A) (px:=px) (i:=i) aH) tI a6 aG Ww (λw' h=>(U.ma (h.sub (M:=Sl 22 1 (some ⟨bb,oo,none⟩) x.al.length c (zs.map aK)::ah a8 zs::[]))).2 _ (getElem_mem _))) λiA z6 sH a w E ⟨ou,I⟩=>?_;obtain⟨p2,⟨bA,Wx⟩,I⟩:=Jw.open I;have vO:=(ax.facts (I.store sq)).1;refine RN 0 E I λa E=>?_;refine IF 6 E I (λaj a E=>?_) λaj a E=>?_
 ·
  refine CL 2 E I (xT (L:=Tree tq sq T::bI jq J::aA W p aq cO::L) (I.sub (M:=aa wb 247 (cx p aq cO tq jq sq k)::ax sq r { A with ar:=A.ar.set i ⟨px.id,px.refs,iA,p2⟩ }::Tree tq sq T::bI jq J::aA W p aq cO::L)) hb) λa w E I=>?_;refine RN 0 E I λa E=>?_;have vP:Rd w wb 6 [.int .i64 k.jb,.int .i64 k.je]:=(I.ai (b:=wb)).part 6 2;refine aV 1 (λw0 w'=>Rd w' wb 0 (cx p aq cO tq jq sq { k with busy:=false })∧Rd w' wb 6 [.int .i64 k.jb,.int .i64 k.je]) [7] [0,1,2,4,5,6,3003,1007,1008] E I λa w E I hH=>?_;replace vP:Rd w wb 6 [.int .i64 k.jb,.int .i64 k.je]:=(I.ai (b:=wb)).part 6 2;have hC:=hH.at w ⟨I.ai,vP⟩;refine RH 6 E I hH hC λa E=>?_;refine QH E (λw hc=>ae E (hc.1 3 _ rfl)) hC λa E=>?_;refine RH 0 E I hH hC λa E=>?_;refine SS E (bS E underlying245 rfl Ty.t245 (hC.2)) λa E=>?_;refine RH 0 E I hH hC λa E=>?_;refine CL 0 E I (zR (I.tU jq) kz) λa w E I=>?_;change U W w (bI jq (lL J k.jb k.je)::_) at I;refine RT 0 E I ?_;refine⟨A.et k.x,lL J k.jb k.je,{ k with busy:=false },rfl,.failed hb he hx b6 eB (Wx aj),?_⟩;rw[← xU,Ws hA vO hi hr] at *;exact I.sub
 refine ST 3 E I (λa w E I=>?_) (hlt:=(by simp[cx]));change U W w (aa wb 247 (cx p aq cO tq jq sq { k with mm:=true })::_) at I;refine RT 0 E I ?_;obtain⟨_,nt⟩:=ou aj;subst nt;exact⟨_,J,{ k with mm:=true },rfl,.mm (p':=p2) hb he hx b6 eB hi xU JM bA,I.sub⟩
theorem Wy {ad:Option Addr}{c:Nat}(I:U W w (aa wb 247 (cx p aq cO tq jq sq k)::Tree tq sq T::ax sq r A::bI jq J::L))
   (hb:k.busy=true) (he:k.je=T.epoch) (hx:T.l[kk]?=some x) (b6:(x.id:Int)=k.jb) (eB:k.mm=true) (hi:A.ar[i]?=some px) (xU:px.id=k.x) (hd:k.done<x.al.length) (kz:J.length≤16) :
   Calls prog 147 #[pt wb,.agg (ch x ad c).toArray] w λe w'=>∃ (A':Sn) (T':Tr) (J':Js) (k':Wk),e=.returned (.tuple #[])∧lk p A T J k true A' T' J' k' ∧
    U W w' (aa wb 247 (cx p aq cO tq jq sq k')::Tree tq sq T'::ax sq r A'::bI jq J'::L):=by
 have kV:=Tree.wt (I.tree tq);have eC:=bH hx;have dM:=(a2.1 hx).1;have z8:=(kV.ok x eC).1;have mn:x.al.length≤65536:=z8.1;refine EN func147 ntmps147 rfl rfl λa E=>?_;refine BX 1 E I λb3 a w E I=>?_;change U W w (aa b3 238 (ch x ad c)::_) at I;refine aV 2 (λw0 w'=>Rd w' wb 0 (cx p aq cO tq jq sq k)∧Rd w' b3 0 (ch x ad c)) [5,9,10,14] [0,1,2,4,6,7,8,11,12,13,3003,3005,3009,3010,1014,1015] E I λa w E I hH=>?_;have hC:=hH.at w ⟨I.ai,I.ai⟩;refine RH 10 E I hH hC λa E=>?_;refine QH E (λw hc=>ae E (hc.1 2 _ rfl)) hC λa E=>?_;refine QH E (λw hc=>ae E (hc.2 0 _ rfl)) hC λa E=>?_;refine QH E (λw hc=>ae E (hc.1 9 _ rfl)) hC λa E=>?_;refine RH 1 E I hH hC λa E=>?_;refine SS E (ae E (hC.1 8 _ rfl)) λa E=>?_;refine RH 0 E I hH hC λa E=>?_;refine CL 0 E I (Wr (kk:=kk) (d:=k.done+1) (L:=aa wb 247 (cx p aq cO tq jq sq k)::aa b3 238 (ch x ad c)::bI jq J::L) (I.sub (M:=Tree tq sq T::ax sq r A::aa wb 247 (cx p aq cO tq jq sq k)::aa b3 238 (ch x ad c)::bI jq J::L)) hx (by omega) hi xU) λa w E JO=>?_;refine RN 0 E (U.start _) λa E=>?_;refine Q0 0 E (U.start _) (λaj a E=>?_) λaj a E=>?_
 ·
  have hlt:x.done<k.done+1:=by simpa using aj
  replace I:=(JO.resolve_right (λh=>by omega)).2;refine ST 3 E I (λa w E I=>?_) (hlt:=(by simp[cx]));change U W w (aa wb 247 (cx p aq cO tq jq sq { k with busy:=false })::_) at I;refine CL 2 E I (JJ (k:={ k with busy:=false }) I rfl) λa w E I=>?_;refine RN 0 E I λa E=>?_;refine cc (M:=λa w=>∃ (b4:Nat) (ad2:Option Addr) (c2:Nat),Fr a 55 [(0,pt wb),(4,pt b4),(5,.bool true)]∧U W w (aa b4 238 (ch { x with done:=k.done+1,snap:=k.x } ad2 c2)::aa wb 247 (cx p aq cO tq jq sq { k with busy:=false })::Tree tq sq (T.iC kk x (k.done+1) k.x)::ax sq r (A.et x.snap)::bI jq J::L)) ?_ ?_
  ·
   refine aV 0 (λw0 w'=>Rd w' wb 0 (cx p aq cO tq jq sq { k with busy:=false })∧Rd w' b3 0 (ch x ad c)) [5,10] [0,1,2,4,3003,3005,2006,7,8,9,1010,1011,12] E I λa w E I hH=>?_;have hC:=hH.at w ⟨I.ai,I.ai⟩;refine RH 4 E I hH hC λa E=>?_;refine QH E (λw hc=>ae E (hc.1 2 _ rfl)) hC λa E=>?_;refine QH E (λw hc=>ae E (hc.2 0 _ rfl)) hC λa E=>?_;refine RH 0 E I hH hC λa E=>?_;refine DN [(6,[7,8,9,1010,1011,12]),(10,[1006,7,8,9,1011,12])] (by kernel_rfl) rfl ⟨⟨_,rfl,?_⟩,⟨_,rfl,?_⟩,trivial⟩
   ·
    refine RH 0 E I hH hC λa E=>?_;refine aY 0 E I (xw (x:={ x with done:=k.done+1,snap:=k.x }) (k:=kk) (I.tree tq) (by simp[Tr.iC,dM])) λad2 c2 a w E I=>?_;refine RN 3 E I λa E=>?_;refine eV E rfl I Ty.t238 rfl λb4 a w E I ho=>?_;clear ho;replace hC:=hH.at w (And.intro I.ai I.ai);refine RH 0 E I hH hC λa E=>?_;refine SA 0 E I λa w E I=>?_;refine RN 1 E I λa E=>?_;exact⟨_,ad2,c2,E.ab [0,4,5],I.sub⟩
   refine RH 0 E I hH hC λa E=>?_;refine eV E rfl I Ty.t238 rfl λb4 a w E I ho=>?_;clear ho;replace hC:=hH.at w (And.intro I.ai I.ai);refine RH 0 E I hH hC λa E=>?_;refine aY 0 E I (xw (x:={ x with done:=k.done+1,snap:=k.x }) (k:=kk) (I.tree tq) (by simp[Tr.iC,dM])) λad2 c2 a w E I=>?_;refine SA 3 E I λa w E I=>?_;refine RN 1 E I λa E=>?_;exact⟨_,ad2,c2,E.ab [0,4,5],I.sub⟩
  clear E;(try clear I);rintro a w ⟨b4,ad2,c2,E,I⟩;refine RN 3 E I λa E=>?_;replace E:=E.eh 38;refine IF 7 E I (λao a E=>?_) λao a E=>?_
  ·
   replace ao:((k.done+1:Nat):Int)<((x.al.length:Nat):Int):=ao;refine aV 0 (λw0 w'=>Rd w' wb 0 (cx p aq cO tq jq sq { k with busy:=false })∧Rd w' wb 6 [.int .i64 k.jb,.int .i64 k.je]) [7] [0,1,2,4,5,6,3003,1007,1008] E I λa w E I hH=>?_;have vP:Rd w wb 6 [.int .i64 k.jb,.int .i64 k.je]:=(I.ai (b:=wb)).part 6 2;have hC:=hH.at w ⟨I.ai,vP⟩;refine RH 6 E I hH hC λa E=>?_;refine QH E (λw hc=>ae E (hc.1 3 _ rfl)) hC λa E=>?_;refine RH 0 E I hH hC λa E=>?_;refine SS E (bS E underlying245 rfl Ty.t245 (hC.2)) λa E=>?_;refine RH 0 E I hH hC λa E=>?_;refine CL 0 E I (zR (I.tU jq) kz) λa w E I=>?_;change U W w (bI jq (lL J k.jb k.je)::_) at I;refine RT 0 E I ?_;refine⟨_,_,if k.done+1<x.al.length then lL J k.jb k.je else J,{ k with busy:=false },rfl,.iC (x:=x) (kk:=kk) hb he hx b6 eB hlt (by omega),?_⟩;rw[ak (by omega)];exact I.sub
  replace ao:((x.al.length:Nat):Int)≤((k.done+1:Nat):Int):=ao;refine RT 0 E I ?_;refine⟨_,_,if k.done+1<x.al.length then lL J k.jb k.je else J,{ k with busy:=false },rfl,.iC (x:=x) (kk:=kk) hb he hx b6 eB hlt (by omega),?_⟩;rw[ag (by omega)];exact I.sub
 have hlt:k.done+1≤x.done:=by
  have:=of_decide_eq_false aj;omega
 replace I:=(JO.resolve_left (λh=>by omega)).2;refine CL 2 E I (xT (L:=aa b3 238 (ch x ad c)::Tree tq sq T::bI jq J::L) (I.sub (M:=aa wb 247 (cx p aq cO tq jq sq k)::ax sq r A::aa b3 238 (ch x ad c)::Tree tq sq T::bI jq J::L)) hb) λa w E I=>?_;refine RN 0 E I λa E=>?_;refine cc (M:=λa w=>∃ (b4:Nat) (ad2:Option Addr) (c2:Nat),Fr a 55 [(0,pt wb),(4,pt b4),(5,.bool true)]∧U W w (aa b4 238 (ch x ad2 c2)::aa wb 247 (cx p aq cO tq jq sq { k with busy:=false })::Tree tq sq T::ax sq r (A.et k.x)::bI jq J::L)) ?_ ?_
 ·
  refine aV 0 (λw0 w'=>Rd w' wb 0 (cx p aq cO tq jq sq { k with busy:=false })∧Rd w' b3 0 (ch x ad c)) [5,10] [0,1,2,4,3003,3005,2006,7,8,9,1010,1011,12] E I λa w E I hH=>?_;have hC:=hH.at w ⟨I.ai,I.ai⟩;refine RH 4 E I hH hC λa E=>?_;refine QH E (λw hc=>ae E (hc.1 2 _ rfl)) hC λa E=>?_;refine QH E (λw hc=>ae E (hc.2 0 _ rfl)) hC λa E=>?_;refine RH 0 E I hH hC λa E=>?_;refine DN [(6,[7,8,9,1010,1011,12]),(10,[1006,7,8,9,1011,12])] (by kernel_rfl) rfl ⟨⟨_,rfl,?_⟩,⟨_,rfl,?_⟩,trivial⟩
  ·
   refine RH 0 E I hH hC λa E=>?_;refine aY 0 E I (xw (x:=x) (k:=kk) (I.tree tq) hx) λad2 c2 a w E I=>?_;refine RN 3 E I λa E=>?_;refine eV E rfl I Ty.t238 rfl λb4 a w E I ho=>?_;clear ho;replace hC:=hH.at w (And.intro I.ai I.ai);refine RH 0 E I hH hC λa E=>?_;refine SA 0 E I λa w E I=>?_;refine RN 1 E I λa E=>?_;exact⟨_,ad2,c2,E.ab [0,4,5],I.sub⟩
  refine RH 0 E I hH hC λa E=>?_;refine eV E rfl I Ty.t238 rfl λb4 a w E I ho=>?_;clear ho;replace hC:=hH.at w (And.intro I.ai I.ai);refine RH 0 E I hH hC λa E=>?_;refine aY 0 E I (xw (x:=x) (k:=kk) (I.tree tq) hx) λad2 c2 a w E I=>?_;refine SA 3 E I λa w E I=>?_;refine RN 1 E I λa E=>?_;exact⟨_,ad2,c2,E.ab [0,4,5],I.sub⟩
 clear E;(try clear I);rintro a w ⟨b4,ad2,c2,E,I⟩;refine RN 3 E I λa E=>?_;replace E:=E.eh 38;refine IF 7 E I (λao a E=>?_) λao a E=>?_
 ·
  refine aV 0 (λw0 w'=>Rd w' wb 0 (cx p aq cO tq jq sq { k with busy:=false })∧Rd w' wb 6 [.int .i64 k.jb,.int .i64 k.je]) [7] [0,1,2,4,5,6,3003,1007,1008] E I λa w E I hH=>?_;have vP:Rd w wb 6 [.int .i64 k.jb,.int .i64 k.je]:=(I.ai (b:=wb)).part 6 2;have hC:=hH.at w ⟨I.ai,vP⟩;refine RH 6 E I hH hC λa E=>?_;refine QH E (λw hc=>ae E (hc.1 3 _ rfl)) hC λa E=>?_;refine RH 0 E I hH hC λa E=>?_;refine SS E (bS E underlying245 rfl Ty.t245 (hC.2)) λa E=>?_;refine RH 0 E I hH hC λa E=>?_;refine CL 0 E I (zR (I.tU jq) kz) λa w E I=>?_;change U W w (bI jq (lL J k.jb k.je)::_) at I;refine RT 0 E I ?_;refine⟨_,_,if x.done<x.al.length then lL J k.jb k.je else J,{ k with busy:=false },rfl,.lost (x:=x) hb he eC b6 eB hlt,?_⟩;rw[ak (by omega)];exact I.sub
 refine RT 0 E I ?_;refine⟨_,_,if x.done<x.al.length then lL J k.jb k.je else J,{ k with busy:=false },rfl,.lost (x:=x) hb he eC b6 eB hlt,?_⟩;rw[ag (by omega)];exact I.sub
structure JP (p:Pr)(A:Sn)(T:Tr)(J:Js)(k:Wk):Prop where
 pr:dh p
 sz:p.title.size≤1000000000
 frm:∀ y∈T.l,0≤y.frm∧y.frm≤1099511627776
 gm:∀ x∈T.l,∃ (i:Nat) (px:aC),A.ar[i]?=some px∧px.id=x.snap
 Wz:k.busy=true→(∃ (i:Nat) (px:aC),A.ar[i]?=some px∧px.id=k.x∧px.refs=1∧dO px.g)∧∀ y∈T.l,(y.id:Int)=k.jb→k.done<y.al.length
 n:A.n+1<1099511627776
 len:J.length≤16
theorem Inv.ready {F:Int}{g0:Nat→Int}{t:Nat→Nat}{base:Nat}{ws:List Wk}(h:Inv p F g0 t base A T ws)(hk:k∈ws)(hF:0≤F∧F≤1099511627776)(hp:dh p)(hz:p.title.size≤1000000000)(hn:A.n+1<1099511627776)(kz:J.length≤16):JP p A T J k :=
 ⟨hp,hz,λy hy=>by rw[(h.ga y hy).1];exact hF,λx hx=>h.Jo hx,λhb=>⟨by
  obtain⟨i,px,h1,h2⟩:=h.Vu hk hb;have h3:=h.ar px (bH h1);exact⟨i,px,h1,h2,h3.1,h3.2⟩,λy hy he=>((h.ll k hk).2 hb y hy he).1⟩,hn,kz⟩
theorem WA (I:U W w (aa wb 247 (cx p aq cO tq jq sq k)::Tree tq sq T::ax sq r A::bI jq J::aA W p aq cO::L))(hr:JP p A T J k) :
   Calls prog 102 #[pt wb] w λe w'=>∃ (z:Bool) (A':Sn) (T':Tr) (J':Js) (k':Wk),e=.returned (.bool z)∧lk p A T J k z A' T' J' k' ∧
    U W w' (aa wb 247 (cx p aq cO tq jq sq k')::Tree tq sq T'::ax sq r A'::bI jq J'::aA W p aq cO::L):=by
 refine EN func102 ntmps102 rfl rfl λa E=>?_;refine RN 6 E I λa E=>?_;replace E:=E.aM 6;refine IF 8 E I (λao a E=>?_) λao a E=>?_
 ·
  refine jP 2 E I (Wt (p:=p) I ao hr.gm hr.n) ?_;clear E I;rintro e w ⟨z,A',J',k',rfl,ua,I⟩;refine⟨_,rfl,λa E=>?_⟩;refine RT 1 E I ?_;exact⟨z,A',T,J',k',rfl,ua,I⟩
 obtain⟨⟨i,px,hJ,kU,a6,sI⟩,c6⟩:=hr.Wz ao;refine RN 0 E I λa E=>?_;refine cc (M:=λa w=>∃ (b3:Nat) (x:Br) (ad:Option Addr) (c:Nat) (ok:Bool),((ok=true∧x∈T.l∧(x.id:Int)=k.jb)∨(ok=false∧∀ y∈T.l,(y.id:Int)≠k.jb))∧Fr a 57 [(0,pt wb),(3,pt b3),(4,.bool ok)]∧U W w (aa b3 238 (ch x ad c)::cg ad x.al.length c x.al::aa wb 247 (cx p aq cO tq jq sq k)::Tree tq sq T::ax sq r A::bI jq J::aA W p aq cO::L)) ?_ ?_
 ·
  refine aV 0 (λw0 w'=>Rd w' wb 0 (cx p aq cO tq jq sq k)) [8,13] [0,1,2,4,5,6,7,3003,3008,2009,10,11,12,1013,1014,15] E I λa w E I hH=>?_;have hC:=hH.at w I.ai;refine RH 7 E I hH hC λa E=>?_;refine QH E (λw hc=>ae E (hc 2 _ rfl)) hC λa E=>?_;refine QH E (λw hc=>ae E (hc 6 _ rfl)) hC λa E=>?_;refine RH 0 E I hH hC λa E=>?_;refine DN [(9,[10,11,12,1013,1014,15]),(13,[1009,10,11,12,1014,15])] (by kernel_rfl) rfl ⟨⟨_,rfl,?_⟩,⟨_,rfl,?_⟩,trivial⟩
  ·
   refine RH 0 E I hH hC λa E=>?_;refine jP 0 E I (z7 (id:=k.jb) (I.tree tq)) ?_;clear E I;rintro e w ⟨x,ad,c,ok,rfl,dj,I⟩;refine⟨_,rfl,λa E=>?_⟩;refine RN 3 E I λa E=>?_;refine eV E rfl I Ty.t238 rfl λb3 a w E I ho=>?_;clear ho;replace hC:=hH.at w I.ai;refine RH 0 E I hH hC λa E=>?_;refine SA 0 E I λa w E I=>?_;refine RN 1 E I λa E=>?_;exact⟨_,x,ad,c,ok,dj,E.ab [0,3,4],I.sub⟩
  refine RH 0 E I hH hC λa E=>?_;refine eV E rfl I Ty.t238 rfl λb3 a w E I ho=>?_;clear ho;replace hC:=hH.at w I.ai;refine RH 0 E I hH hC λa E=>?_;refine jP 0 E I (z7 (id:=k.jb) (I.tree tq)) ?_;clear E I;rintro e w ⟨x,ad,c,ok,rfl,dj,I⟩;refine⟨_,rfl,λa E=>?_⟩;refine SA 3 E I λa w E I=>?_;refine RN 1 E I λa E=>?_;exact⟨_,x,ad,c,ok,dj,E.ab [0,3,4],I.sub⟩
 clear E;(try clear I);rintro a w ⟨b3,x,ad,c,ok,dj,E,I⟩;refine aV 2 (λw0 w'=>Rd w' wb 0 (cx p aq cO tq jq sq k)) [8,9] [0,1,2,3,5,6,7,3004,1008,1009,10,11,12,13,14,15] E I λa w E I hH=>?_;have hC:=hH.at w I.ai;refine RH 7 E I hH hC λa E=>?_;refine QH E (λw hc=>ae E (hc 7 _ rfl)) hC λa E=>?_;refine RH 0 E I hH hC λa E=>?_;refine SS E (ae E (hC 2 _ rfl)) λa E=>?_;refine RH 0 E I hH hC λa E=>?_;refine CL 0 E I (zM (I.tree tq)) λa w E I=>?_;replace hC:=hH.at w I.ai;refine RH 2 E I hH hC λa E=>?_;refine E.by (s:=42) (λkQ E=>?_) (λkQ E=>?_)
 ·
  refine RH 4 E I hH hC λa E=>?_;refine CL 2 E I (xT (L:=Tree tq sq T::bI jq J::aA W p aq cO::L) (I.sub (M:=aa wb 247 (cx p aq cO tq jq sq k)::ax sq r A::Tree tq sq T::bI jq J::aA W p aq cO::L)) ao) λa w E I=>?_;refine RT 2 E I ?_;exact⟨true,A.et k.x,T,J,{ k with busy:=false },rfl,.gone ao (.inl kQ),I.sub⟩
 refine RH 4 E I hH hC λa E=>?_;refine IF 0 E I (λay a E=>?_) λay a E=>?_
 ·
  have bR:∀ y∈T.l,(y.id:Int)≠k.jb:=by
   rcases dj with ⟨h,_⟩ | ⟨_,h⟩
   ·rw[h]at ay;cases ay
   ·exact h
  refine CL 1 E I (xT (L:=Tree tq sq T::bI jq J::aA W p aq cO::L) (I.sub (M:=aa wb 247 (cx p aq cO tq jq sq k)::ax sq r A::Tree tq sq T::bI jq J::aA W p aq cO::L)) ao) λa w E I=>?_;refine RT 2 E I ?_;exact⟨true,A.et k.x,T,J,{ k with busy:=false },rfl,.gone ao (.inr bR),I.sub⟩
 obtain⟨hx,b6⟩:x∈T.l∧(x.id:Int)=k.jb:=by
  rcases dj with ⟨_,h⟩ | ⟨h,_⟩
  ·exact h
  ·rw[h]at ay;cases ay
 refine IF 7 E I (λbk a E=>?_) λbk a E=>?_
 ·
  refine jO 2 E I (Wv (I.sub (M:=aa wb 247 (cx p aq cO tq jq sq k)::cg ad x.al.length c x.al::Tree tq sq T::ax sq r A::bI jq J::aA W p aq cO::L)) ao kQ hx b6 bk hJ kU a6 sI (c6 x hx b6) (hr.frm x hx) hr.pr hr.sz hr.len) λA' J' k' a w E ⟨ua,I⟩=>?_;refine RT 2 E I ?_;exact⟨true,A',T,J',k',rfl,ua,I⟩
 obtain⟨kk,jR⟩:=jS.1 hx;refine jP 2 E I (Wy (p:=p) (L:=aA W p aq cO::L) (I.sub (M:=aa wb 247 (cx p aq cO tq jq sq k)::Tree tq sq T::ax sq r A::bI jq J::aA W p aq cO::L)) ao kQ jR b6 bk hJ kU (c6 x hx b6) hr.len) ?_;clear E I;rintro e w ⟨A',T',J',k',rfl,ua,I⟩;refine⟨_,rfl,λa E=>?_⟩;refine RT 2 E I ?_;exact⟨true,A',T',J',k',rfl,ua,I⟩
end
end
section
theorem DU {s:ByteArray}{j:Nat}(h:j<s.size):s.get! j=s[j]'h:=by
 have h2:j<s.data.size:=h;show s.data[j]! = s.data[j];rw[getElem!_pos s.data j h2]
theorem JQ {s:ByteArray}{j:Nat}(h:s.size≤j):s.get! j=0:=by
 have h2:¬ j<s.data.size:=Nat.not_lt.2 h;show s.data[j]! = 0;rw[getElem!_neg s.data j h2];rfl
theorem ra (s:ByteArray)(p:Nat):(s.extract p s.size).size=s.size-p:=by simp[ByteArray.size_extract]
theorem WB (s:ByteArray)(p k:Nat):(s.extract p s.size).get! k=s.get! (p+k):=by
 by_cases h:p+k<s.size
 ·have h2:k<(s.extract p s.size).size:=by rw[ra];omega
  rw[DU h2,DU h,ByteArray.getElem_extract]
 ·rw[JQ (by rw[ra];omega),JQ (by omega)]
theorem WD (s:ByteArray)(p:Nat):Utf8.decode (s.extract p s.size) 0=Utf8.decode s p:=by
 have hc:∀ k,decide (k<s.size-p)=decide (p+k<s.size):=λk=>by
  by_cases h:p+k<s.size
  ·rw[dg h,dg (by omega)]
  ·rw[bq h,bq (by omega)]
 simp only[Utf8.decode,WB,ra,hc,Nat.zero_add,Nat.add_assoc]
theorem DV (s:ByteArray)(p n:Nat):(s.extract p s.size).extract n (s.extract p s.size).size=s.extract (p+n) s.size:=by
 rw[ra,ByteArray.extract_extract]
 congr 1
 omega
def DX (b n low r:Nat):Prop:=(b=192+r∧r<32∧n=2∧low=128)∨(b=224+r∧r<16∧n=3∧low=2048)∨(b=240+r∧r<8∧n=4∧low=65536)
def j2 (s:ByteArray)(j:Nat):Nat:=(s.get! j).toNat
def gd (s:ByteArray)(r:Nat):Nat→Nat
 | 0=>r
 | j+1=>gd s r j*64+j2 s (j+1)%64
theorem DY (s:ByteArray)(j:Nat):j2 s j<256:=(s.get! j).toNat_lt
theorem DZ {s:ByteArray}{r:Nat}(h:r<32):∀ j,gd s r j<32*64 ^ j
 | 0=>by simpa [gd] using h
 | j+1=>by
  have:=DZ (s:=s) h j;rw[gd,Nat.pow_succ];omega
def Aa (low r:Nat):Prop:=r<low∨1114111<r∨(55296≤r∧r<57344)
section
variable {s:ByteArray}{b n low r:Nat}
theorem WE (hb:j2 s 0=b)(h:b<128):Utf8.decode s 0=(b,1):=by
 simp only[j2]at hb;simp[Utf8.decode,hb,h]
theorem sJ (hb:j2 s 0=b)(h1:128≤b)(h2:b<192∨248≤b):Utf8.decode s 0=(0xFFFD,1):=by
 have:=DY s 0;simp only[j2]at hb this;have e1:¬ b<128:=by omega
 have e2:(b/32==6)=false:=by rw[lI];omega
 have e3:(b/16==14)=false:=by rw[lI];omega
 have iX:(b/8==30)=false:=by rw[lI];omega
 simp[Utf8.decode,hb,e1,e2,e3,iX,Utf8.runeError]
theorem D0 (hb:j2 s 0=b)(hd:DX b n low r)(h:s.size<n∨∃ k,1≤k∧k<n∧j2 s k/64≠2):Utf8.decode s 0=(0xFFFD,1):=by
 have hc:∃ k,1≤k∧k<n∧(decide (k<s.size)&&j2 s k/64==2)=false:=by
  rcases h with h | ⟨k,h1,h2,h3⟩
  ·rcases Nat.eq_zero_or_pos s.size with h0 | h0
   ·exact⟨1,by omega,by rcases hd with h | h | h <;> omega,by rw[bq (by omega),Bool.false_and]⟩
   ·exact⟨s.size,by omega,h,by rw[bq (by omega),Bool.false_and]⟩
  ·exact⟨k,h1,h2,by rw[lI.2 h3,Bool.and_false]⟩
 obtain⟨k,h1,h2,h3⟩:=hc;simp only[j2]at hb h3;rcases hd with ⟨rfl,h4,rfl,rfl⟩ | ⟨rfl,h4,rfl,rfl⟩ | ⟨rfl,h4,rfl,rfl⟩
 ·have e1:¬ 192+r<128:=by omega
  have e2:((192+r)/32==6)=true:=by rw[beq_iff_eq];omega
  have e3:((192+r)/16==14)=false:=by rw[lI];omega
  have iX:((192+r)/8==30)=false:=by rw[lI];omega
  obtain rfl:k=1:=by omega
  simp only[Utf8.decode,Nat.zero_add,hb,e1,e2,e3,iX,h3,Utf8.runeError];simp
 ·have e1:¬ 224+r<128:=by omega
  have e2:((224+r)/32==6)=false:=by rw[lI];omega
  have e3:((224+r)/16==14)=true:=by rw[beq_iff_eq];omega
  have iX:((224+r)/8==30)=false:=by rw[lI];omega
  have hk:k=1∨k=2:=by omega
  rcases hk with rfl | rfl
  all_goals
   simp only[Utf8.decode,Nat.zero_add,hb,e1,e2,e3,iX,h3,Utf8.runeError];simp
 ·have e1:¬ 240+r<128:=by omega
  have e2:((240+r)/32==6)=false:=by rw[lI];omega
  have e3:((240+r)/16==14)=false:=by rw[lI];omega
  have iX:((240+r)/8==30)=true:=by rw[beq_iff_eq];omega
  have hk:k=1∨k=2∨k=3:=by omega
  rcases hk with rfl | rfl | rfl
  all_goals
   simp only[Utf8.decode,Nat.zero_add,hb,e1,e2,e3,iX,h3,Utf8.runeError];simp
theorem WG (hb:j2 s 0=b)(hd:DX b n low r)(I:n≤s.size)(h:∀ k,1≤k→k<n→j2 s k/64=2) :
   (Aa low (gd s r (n-1))→Utf8.decode s 0=(0xFFFD,1))∧(¬ Aa low (gd s r (n-1))→Utf8.decode s 0=(gd s r (n-1),n)):=by
 simp only[Aa];have hc:∀ k,1≤k→k<n→(decide (k<s.size)&&(s.get! k).toNat/64==2)=true:=λk h1 h2=>by
  rw[dg (by omega),Bool.true_and,beq_iff_eq];exact h k h1 h2
 have hlt:=DZ (s:=s) (r:=r) (by rcases hd with h | h | h <;> omega) (n-1);simp only[j2]at hb;rcases hd with ⟨rfl,h4,rfl,rfl⟩ | ⟨rfl,h4,rfl,rfl⟩ | ⟨rfl,h4,rfl,rfl⟩
 ·have e1:¬ 192+r<128:=by omega
  have e2:((192+r)/32==6)=true:=by rw[beq_iff_eq];omega
  have sK:gd s r (2-1)=(192+r)%32*64+(s.get! 1).toNat%64:=by
   show r*64+(s.get! 1).toNat%64=_;omega
  have jh:Utf8.decode s 0=if 128≤gd s r (2-1) then (gd s r (2-1),2) else (0xFFFD,1):=by
   rw[sK];simp only[Utf8.decode,Nat.zero_add,hb,e1,e2,hc 1 (by omega) (by omega),Utf8.runeError];simp
  have aeS:gd s r (2-1)<2048:=hlt;refine⟨λjW=>?_,λhg=>?_⟩
  ·rw[jh,ag (by omega)]
  ·rw[jh,ak (by omega)]
 ·have e1:¬ 224+r<128:=by omega
  have e2:((224+r)/32==6)=false:=by rw[lI];omega
  have e3:((224+r)/16==14)=true:=by rw[beq_iff_eq];omega
  have sK:gd s r (3-1)=(224+r)%16*4096+(s.get! 1).toNat%64*64+(s.get! 2).toNat%64:=by
   show (r*64+(s.get! 1).toNat%64)*64+(s.get! 2).toNat%64=_;omega
  have jh:Utf8.decode s 0=if 2048≤gd s r (3-1)∧Utf8.valid (gd s r (3-1))=true then (gd s r (3-1),3) else (0xFFFD,1):=by
   rw[sK];simp only[Utf8.decode,Nat.zero_add,hb,e1,e2,e3,hc 1 (by omega) (by omega),hc 2 (by omega) (by omega),Utf8.runeError];simp
  have hv:Utf8.valid (gd s r (3-1))=true↔(gd s r (3-1)<55296∨(57344≤gd s r (3-1)∧gd s r (3-1)≤1114111)):=by
   simp only[Utf8.valid,Bool.or_eq_true,fk,decide_eq_true_eq];omega
  refine⟨λjW=>?_,λhg=>?_⟩
  ·rw[jh,ag (by rw[hv];omega)]
  ·rw[jh,ak (by rw[hv];omega)]
 ·have e1:¬ 240+r<128:=by omega
  have e2:((240+r)/32==6)=false:=by rw[lI];omega
  have e3:((240+r)/16==14)=false:=by rw[lI];omega
  have iX:((240+r)/8==30)=true:=by rw[beq_iff_eq];omega
  have sK:gd s r (4-1)=(240+r)%8*262144+(s.get! 1).toNat%64*4096+(s.get! 2).toNat%64*64+(s.get! 3).toNat%64:=by
   show ((r*64+(s.get! 1).toNat%64)*64+(s.get! 2).toNat%64)*64+(s.get! 3).toNat%64=_;omega
  have jh:Utf8.decode s 0=if 65536≤gd s r (4-1)∧Utf8.valid (gd s r (4-1))=true then (gd s r (4-1),4) else (0xFFFD,1):=by
   rw[sK];simp only[Utf8.decode,Nat.zero_add,hb,e1,e2,e3,iX,hc 1 (by omega) (by omega),hc 2 (by omega) (by omega),hc 3 (by omega) (by omega),Utf8.runeError];simp
  have hv:Utf8.valid (gd s r (4-1))=true↔(gd s r (4-1)<55296∨(57344≤gd s r (4-1)∧gd s r (4-1)≤1114111)):=by
   simp only[Utf8.valid,Bool.or_eq_true,fk,decide_eq_true_eq];omega
  refine⟨λjW=>?_,λhg=>?_⟩
  ·rw[jh,ag (by rw[hv];omega)]
  ·rw[jh,ak (by rw[hv];omega)]
end
def Ab (x:Nat×Nat):Bool:=if x.1≠65533 then true else decide (x.2=3)
theorem WH (s:ByteArray)(i:Nat):Ab (Utf8.decode s i)=mj (Utf8.decode s i):=by
 rcases I9 s i with h | h
 ·unfold Ab mj;by_cases h1:(Utf8.decode s i).1=65533
  ·rw[h1]at h;have h2:(Utf8.decode s i).2=3:=by rw[← h];rfl
   rw[ag (λh3=>h3 h1),h2];have:Utf8.decode s i≠(65533,1):=λe=>by rw[e]at h2;cases h2
   simp[this]
  ·rw[ak h1];have:Utf8.decode s i≠(65533,1):=λe=>h1 (by rw[e]);simp[this]
 ·rw[h];rfl
def vQ (c:Int):Nat:=[0,2,2,3,3,3,3,3,3,1,2,2,2,2,2,1].getD c.toNat 0
def Ac (o:gC)(k:Nat):Int:=if k=0 then o.a else if k=1 then o.b else o.c
def j3 (n:Int)(o:gC)(k:Nat):Int:=if vQ o.code≤k then 0 else if o.code=9∨(o.code=10∧k=1) then n else 31
def re (n:Int)(o:gC)(k:Nat):Prop:=(k<vQ o.code∧o.code=1∧k=1)∨(0≤Ac o k∧Ac o k≤j3 n o k)
theorem xV {n:Int}{o:gC}:eZ n o↔(0≤o.code∧o.code≤15)∧re n o 0∧re n o 1∧re n o 2:=by
 obtain⟨code,a,b,c⟩:=o;simp only[eZ,re,Ac,j3,eY];by_cases h:0≤code∧code≤15
 ·have h2:∃ m:Nat,code=m∧m≤15:=⟨code.toNat,by omega,by omega⟩;obtain⟨m,rfl,hm⟩:=h2;have:m=0∨m=1∨m=2∨m=3∨m=4∨m=5∨m=6∨m=7∨m=8∨m=9∨m=10∨m=11∨m=12∨m=13∨m=14∨m=15:=by omega
  rcases this with rfl | rfl | rfl | rfl | rfl | rfl | rfl | rfl | rfl | rfl | rfl | rfl | rfl | rfl | rfl | rfl <;> simp[vQ] <;> omega
 ·constructor
  ·intro h3;omega
  ·intro h3;exact absurd h3.1 h
end
end Go.Proofs.YteoldcfapaiobaaGreat
