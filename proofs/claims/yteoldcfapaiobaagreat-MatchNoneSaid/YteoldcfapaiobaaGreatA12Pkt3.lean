/- Packets out of bytes: packet.Decode. -/
import Derived.Test.YteoldcfapaiobaaGreatA11PktP
import Derived.Test.YteoldcfapaiobaaGreatA02Row
namespace Go.Proofs.YteoldcfapaiobaaGreat
open Go.RowKit
set_option linter.unusedVariables false
set_option linter.unusedSimpArgs false
set_option maxRecDepth 10000
set_option synthInstance.maxSize 4000
set_option synthInstance.maxHeartbeats 400000
section
def i64P (x:Int):Prop := -9223372036854775808≤x∧x≤9223372036854775807
def fourB (l:List UInt8):Nat:=l.foldl (λn b=>n*256+b.toNat) 0
theorem fourB_lt:∀ (l:List UInt8) (a:Nat),l.foldl (λn b=>n*256+b.toNat) a<(a+1)*256 ^ l.length
 | [],a=>by simp
 | b::l,a=>by
   have h1:=fourB_lt l (a*256+b.toNat)
   have h2:=u8_lt b
   rw[List.foldl_cons,List.length_cons]
   refine Nat.lt_of_lt_of_le h1 ?_
   rw[Nat.pow_succ,Nat.mul_comm (256 ^ l.length) 256,← Nat.mul_assoc]
   exact Nat.mul_le_mul_right _ (by omega)
theorem fourB_four {x:Nat}(h:x<4294967296):fourB (fourL x)=x:=by
 have:=fourL_back h
 simpa [fourB,fourL,fourN] using this
theorem fourB_take {l:List UInt8}{i:Nat}(h:i<l.length):fourB (l.take (i+1))=fourB (l.take i)*256+l[i].toNat:=by
 rw[fourB,List.take_succ_eq_append_getElem h,List.foldl_append];rfl
theorem fourB_bd (l:List UInt8)(n:Nat)(h:l.length≤n):fourB l<256 ^ n:=by
 have:=fourB_lt l 0
 rw[Nat.zero_add,Nat.one_mul]at this
 exact Nat.lt_of_lt_of_le this (Nat.pow_le_pow_right (by decide) h)
theorem shl8 {n:Nat}(h:n<16777216)(b:UInt8):IntKind.u32.wrap (((BitVec.ofInt IntKind.u32.bits (IntKind.u32.wrap ((n:Int)*2 ^ 8)) ||| BitVec.ofInt IntKind.u32.bits (b.toNat:Int)).toNat:Nat):Int)=((n*256+b.toNat:Nat):Int):=by
 have hb:=u8_lt b
 rw[show IntKind.u32.wrap ((n:Int)*2 ^ 8)=((n*256:Nat):Int) from by rw[wrap_u32];omega,bv32,bv32]
 show IntKind.u32.wrap (((BitVec.ofNat 32 (n*256) ||| BitVec.ofNat 32 b.toNat).toNat:Nat):Int)=_
 rw[BitVec.toNat_or,BitVec.toNat_ofNat,BitVec.toNat_ofNat,Nat.mod_eq_of_lt (show n*256<2 ^ 32 by omega),Nat.mod_eq_of_lt (show b.toNat<2 ^ 32 by omega),wrap_u32]
 have h1:=Nat.two_pow_add_eq_or_of_lt (i:=8) (b:=b.toNat) hb n
 rw[show n*256=2 ^ 8*n from by omega,← h1]
 omega
structure Rdr (W:World)(L:List SP)(ad:Option Addr)(c:Nat)(rest:List UInt8):Prop where
 len:rest.length≤65536
 cap:rest.length≤c
 rd:∀ w',St W w' L→RdB w' ad rest.length rest
section
variable {W w:World}{L L':List SP}{n c m rb:Nat}{ad:Option Addr}{bs rest:List UInt8}{p:Pk}{bad:Bool}
theorem Rdr.cut {k:Nat}(h:Rdr W L ad c rest)(hk:k≤rest.length):Rdr W L (cutAd ad k c 1) (c-k) (rest.drop k) :=
 ⟨by rw[List.length_drop];have:=h.len;omega,by rw[List.length_drop];have:=h.cap;omega,λw' hw=>(h.rd w' hw).cutL hk h.cap⟩
theorem rd_num (hs:St W w (blk rb 427 [.slice ad rest.length c,.bool bad]::L'))(hup:∀ w',St W w' L'→St W w' L)(hr:Rdr W L ad c rest) :
   Calls Tryz.prog 331 #[pt rb] w λe w'=>∃ (x:Int) (ad':Option Addr) (c':Nat) (rest':List UInt8) (bad':Bool),e=.returned (.int .i64 x)∧i64P x∧Rdr W L ad' c' rest' ∧
     (∀ (n:Int) (r:List UInt8),i64P n→rest=putL (zz n)++r→bad=false→x=n∧rest'=r∧bad'=false)∧St W w' (blk rb 427 [.slice ad' rest'.length c',.bool bad']::L'):=by
 have hlen:=hr.len
 refine EN Tryz.func331 Tryz.ntmps331 rfl rfl λa ha=>?_
 refine CL3 7 ha hs (num_get (bs:=rest) hs (by omega) (λw' hw=>hr.rd w' (hup _ hw.tail))) λx k er a w ha ⟨hg,hs⟩=>?_
 refine RN 7 ha hs λa ha=>?_
 have hgk:=hg.2.2.1
 have hge:=hg.2.1
 have hkl:k≤rest.length:=by
   by_cases h0:er=0
   · have:=hgk h0;omega
   · have:=(hg.2.2.2.1 h0).1;omega
 refine wp_seq_cut (M:=λa w=>∃ (z:Bool) (ad':Option Addr) (c':Nat) (rest':List UInt8),(er=0→bad=false→z=false)∧Rdr W L ad' c' rest'∧(z=false→rest'=rest.drop k)∧Fr a 41 [(3,.int .i64 x)]∧St W w (blk rb 427 [.slice ad' rest'.length c',.bool z]::L')) ?_ ?_
 ·
  refine wp_seq_cut (M:=λa w=>∃ z:Bool,(bad=true→z=true)∧(er=0→bad=false→z=false)∧Fr a 41 [(0,pt rb),(3,.int .i64 x),(4,.int .i64 k)]∧St W w (blk rb 427 [.slice ad rest.length c,.bool z]::L')) ?_ ?_
  ·
   refine BY 6 ha hs (λhg5 a ha=>?_) λhg5 a ha=>?_
   ·
    refine ST 5 ha hs (λa w ha hs=>?_)
    refine RN 0 ha hs λa ha=>?_
    exact⟨_,λ_=>rfl,λ_ h=>(by rw[h]at hg5;cases hg5),ha.keep [0,3,4],hs⟩
   refine ST 5 ha hs (λa w ha hs=>?_)
   refine RN 0 ha hs λa ha=>?_
   exact⟨_,λh=>(by rw[h]at hg5;cases hg5),λh _=>decide_eq_false (by omega),ha.keep [0,3,4],hs⟩
  clear ha;(try clear hs)
  rintro a w ⟨z,hz1,hz0,ha,hs⟩
  refine IF 6 ha hs (λhc0 a ha=>?_) λhc0 a ha=>?_
  ·
   have hz:z=false:=hc0
   refine RN 7 ha hs λa ha=>?_
   rw[show rest.length-k=(rest.drop k).length from by simp]at ha
   refine ST 2 ha hs (λa w ha hs=>?_)
   refine RN 0 ha hs λa ha=>?_
   exact⟨_,_,_,_,hz0,hr.cut hkl,λ_=>rfl,ha.keep [3],hs⟩
  refine RN 0 ha hs λa ha=>?_
  exact⟨_,_,_,_,hz0,hr,λh=>(by rw[h]at hc0;cases hc0),ha.keep [3],hs⟩
 clear ha;(try clear hs)
 rintro a w ⟨z,ad',c',rest',hz0,hr',hd',ha,hs⟩
 refine RT 3 ha hs ?_
 refine⟨x,ad',c',rest',z,rfl,hg.1,hr',λn r hn e hb=>?_,hs⟩
 obtain⟨rfl,rfl,rfl⟩:=hg.2.2.2.2 n r hn.1 hn.2 e
 have hz:=hz0 rfl hb
 refine⟨rfl,?_,hz⟩
 rw[hd' hz,e,List.drop_left]
theorem rd_four (hs:St W w (blk rb 427 [.slice ad rest.length c,.bool bad]::L'))(hup:∀ w',St W w' L'→St W w' L)(hr:Rdr W L ad c rest) :
   Calls Tryz.prog 332 #[pt rb] w λe w'=>∃ (x:Nat) (ad':Option Addr) (c':Nat) (rest':List UInt8) (bad':Bool),e=.returned (.int .u32 x)∧x<4294967296∧Rdr W L ad' c' rest' ∧
     (∀ (n:Nat) (r:List UInt8),n<4294967296→rest=fourL n++r→bad=false→x=n∧rest'=r∧bad'=false)∧St W w' (blk rb 427 [.slice ad' rest'.length c',.bool bad']::L'):=by
 have hlen:=hr.len
 have hcap:=hr.cap
 refine EN Tryz.func332 Tryz.ntmps332 rfl rfl λa ha=>?_
 refine RN 3 ha hs λa ha=>?_
 refine wp_seq_cut (M:=λa w=>∃ z:Bool,(z=true↔(bad=true∨rest.length<4))∧Fr a 50 [(0,pt rb)]∧St W w (blk rb 427 [.slice ad rest.length c,.bool z]::L')) ?_ ?_
 ·
  refine BY 6 ha hs (λhg5 a ha=>?_) λhg5 a ha=>?_
  ·
   refine ST 9 ha hs (λa w ha hs=>?_)
   refine RN 0 ha hs λa ha=>?_
   exact⟨_,⟨λ_=>.inl hg5,λ_=>rfl⟩,ha.keep [0],hs⟩
  refine ST 9 ha hs (λa w ha hs=>?_)
  refine RN 0 ha hs λa ha=>?_
  exact⟨_,(by rw[decide_eq_true_iff,hg5];simp;omega),ha.keep [0],hs⟩
 clear ha;(try clear hs)
 rintro a w ⟨z,hz,ha,hs⟩
 refine IF 5 ha hs (λhc0 a ha=>?_) λhc0 a ha=>?_
 ·
  have hzt:=hz.1 hc0
  refine RT 2 ha hs ?_
  refine⟨0,ad,c,rest,true,rfl,by decide,hr,λn r hn e hb=>?_,by rw[hc0]at hs;exact hs⟩
  rcases hzt with h | h
  · rw[hb]at h;cases h
  · rw[e,List.length_append,fourL_len]at h;omega
 have hzf:¬ (bad=true∨rest.length<4):=λh=>by rw[hz.2 h]at hc0;cases hc0
 have h4:4≤rest.length:=Nat.le_of_not_lt λh=>hzf (.inr h)
 obtain⟨bb,oo,rfl,_⟩:=(hr.rd _ (hup _ hs.tail)).get (by omega)
 have htl:(rest.take 4).length=4:=by rw[List.length_take];omega
 refine RN 9 ha hs λa ha=>?_
 rw[cutAd_zero,Nat.sub_zero,Nat.sub_zero]at ha
 refine RN 2 ha hs λa ha=>?_
 refine wp_loop_ghost (λμ a w=>∃ (i:Nat),(μ=4-i∧i≤4)∧Fr a 50 [(0,pt rb),(3,.int .u32 (fourB (rest.take i))),(29,.slice (some ⟨bb,oo,none⟩) 4 c),(30,.int .i64 4),(31,.int .i64 i)]∧St W w (blk rb 427 [.slice (some ⟨bb,oo,none⟩) rest.length c,.bool z]::L')) (4) (⟨0,⟨rfl,by omega⟩,ha.keep [0,3,29,30,31],hs⟩) ?_
 clear ha hs
 rintro μ a w ⟨i,⟨rfl,hi⟩,ha,hs⟩
 refine IF 3 ha hs (λhc1 a ha=>?_) λhc1 a ha=>?_
 ·
  have hil:i<rest.length:=by omega
  have hbd:=fourB_bd (rest.take i) 3 (by rw[List.length_take];omega)
  rw[show (256:Nat) ^ 3=16777216 from by decide]at hbd
  have hb8:=u8_lt rest[i]
  refine RN 3 ha hs λa ha=>?_
  refine SS ha (ld1 ha (((hr.rd _ (hup _ hs.tail)).rd (by omega)) i _ (bc_at hil))) λa ha=>?_
  refine SX 4 ha hs (by rw[wrap_u32];omega) λa ha=>?_
  refine RN 1 ha hs λa ha=>?_
  rw[shl8 hbd,← fourB_take hil]at ha
  refine RN 3 ha hs λa ha=>?_
  exact⟨4-(i+1),by omega,i+1,⟨rfl,by omega⟩,ha.keep [0,3,29,30,31],hs⟩
 obtain rfl:i=4:=by omega
 refine RN 7 ha hs λa ha=>?_
 rw[show rest.length-4=(rest.drop 4).length from by simp]at ha
 refine ST 2 ha hs (λa w ha hs=>?_)
 refine RT 3 ha hs ?_
 have hbd:=fourB_bd (rest.take 4) 4 (by rw[List.length_take];omega)
 rw[show (256:Nat) ^ 4=4294967296 from by decide]at hbd
 refine⟨_,_,_,_,z,rfl,hbd,hr.cut h4,λn r hn e hb=>?_,hs⟩
 have ht:rest.take 4=fourL n:=by rw[e];rfl
 have hd:rest.drop 4=r:=by rw[e];rfl
 exact⟨by rw[ht,fourB_four hn],hd,hc0⟩
theorem bytes_equalS {a b:List UInt8}{ad2:Option Addr}{m n c2:Nat}(hs:St W w L)(ha':RdB w ad m a)(hb':RdB w ad2 n b) :
   Calls Tryz.prog 313 #[.slice ad m c,.slice ad2 n c2] w λe w'=>e=.returned (.bool (a==b))∧St W w' L :=
 (bytes_equal ha' hb').mono λe w' h=>⟨h.1,by rw[h.2];exact hs⟩
theorem decP_head {bs:List UInt8}{q:Pk}(h:decP bs q):(q.kind=((bs.getD 0 0).toNat:Int)∧q.from'=((bs.getD 1 0).toNat:Int)∧q.to=((bs.getD 2 0).toNat:Int))∧(bs.drop 3).take (bs.length-7)=midPk q:=by
 have h1:=encPk_head h.2.2
 obtain⟨f1,t1,n1,i1,k1⟩:=h.1
 refine⟨?_,encPk_mid h.2.2⟩
 simp only[List.getD_eq_getElem?_getD,h1.1,h1.2.1,h1.2.2,Option.getD_some,UInt8.toNat_ofNat']
 omega
theorem i64u8 (b:UInt8):IntKind.i64.wrap (b.toNat:Int)=(b.toNat:Int):=wrap_in (by omega) (by have:=u8_lt b;omega)
theorem decP_bad {bs:List UInt8}(h:¬ ∃ q,decP bs q):decO bs=none:=decO_none λq hq=>h ⟨q,hq⟩
def Dec (bs:List UInt8)(p:Pk)(adP:Option Addr)(cP:Nat)(ok:Bool):Prop:=(ok=true∧decO bs=some p)∨(ok=false∧decO bs=none∧p=pk0∧adP=none∧cP=0)
theorem packet_dec (hs:St W w L)(hb:bs.length≤65536)(hc:bs.length≤c)(hp:∀ w',St W w' L→RdB w' ad bs.length bs) :
   Calls Tryz.prog 317 #[.slice ad bs.length c] w λe w'=>∃ (p:Pk) (adP:Option Addr) (cP:Nat) (ok:Bool),e=.returned (.tuple #[.agg (pkC p adP cP).toArray,.int .i64 (if ok=true then 0 else 1)])∧Dec bs p adP cP ok∧St W w' (Sl 5 1 adP p.press.length cP (bc p.press)::L):=by
 refine EN Tryz.func317 Tryz.ntmps317 rfl rfl λa ha=>?_
 refine AL 1 ha hs λb2 a w ha hs=>?_
 refine IF 6 ha hs (λhc0 a ha=>?_) λhc0 a ha=>?_
 ·
  have hno:decO bs=none:=decO_none λq hq=>by
    have:=congrArg List.length hq.2.2
    rw[encPk_len]at this;omega
  refine SA 2 ha hs λa w ha hs=>?_
  refine RT 1 ha hs ?_
  exact⟨pk0,none,0,false,rfl,.inr ⟨rfl,hno,rfl,rfl,rfl⟩,hs.tail.sl0 _ _ _⟩
 obtain⟨bb,oo,rfl,_⟩:=(hp _ hs.tail).get (by omega)
 have h7:7≤bs.length:=by omega
 refine DWC 1 (λw0 w=>Rd w bb oo (bc bs)) [6,7,10,11,13] [0,1,4,5,8,9,3002,3,3006,3007,3010,3011,12,1013,1014] ha hs λa w ha hs hH=>?_
 have hC:Rd w bb oo (bc bs):=(hp _ hs.tail).rd (by omega)
 refine RH 6 ha hs hH hC λa ha=>?_
 refine QH ha (λw hc=>ld1 ha (hc 0 _ (bc_atD (by omega)))) hC λa ha=>?_
 refine QP ha (λw=>ex_convIIs ha Tryz.underlying5 Tryz.underlying3 (i64u8 _)) λa ha=>?_
 refine QH ha (λw hc=>ld1 ha (hc 1 _ (bc_atD (by omega)))) hC λa ha=>?_
 refine QH ha (λw hc=>ex_convIIs ha Tryz.underlying5 Tryz.underlying3 (i64u8 _)) hC λa ha=>?_
 refine QH ha (λw hc=>ld1 ha (hc 2 _ (bc_atD (by omega)))) hC λa ha=>?_
 refine QH ha (λw hc=>ex_convIIs ha Tryz.underlying5 Tryz.underlying3 (i64u8 _)) hC λa ha=>?_
 refine RH 1 ha hs hH hC λa ha=>?_
 refine st_alloc ha rfl hs Ty.t203 rfl λb4 a w ha hs ho=>?_
 clear ho
 replace hC:=hH.at w ((hp _ hs.tail.tail).rd (by omega))
 refine RH 0 ha hs hH hC λa ha=>?_
 refine SA 0 ha hs λa w ha hs=>?_
 refine RN 5 ha hs λa ha=>?_
 rw[show (bs.length:Int)-4=((bs.length-4:Nat):Int) from by omega]at ha
 refine RN 1 ha hs λa ha=>?_
 obtain⟨R1,hR1⟩:∃ R1,R1=(bs.drop 3).take (bs.length-7):=⟨_,rfl⟩
 have hl1:R1.length=bs.length-7:=by rw[hR1,List.length_take,List.length_drop];omega
 have hr1:Rdr W L (cutAd (some ⟨bb,oo,none⟩) 3 c 1) (c-3) R1:=⟨by omega,by omega,λw' hw=>by
   rw[hl1,hR1]
   exact ((hp w' hw).cutL (lo:=3) (by omega) hc).cutH (by rw[List.length_drop];omega)⟩
 have hq1:∀ q,decP bs q→(q.kind=((bs.getD 0 0).toNat:Int)∧q.from'=((bs.getD 1 0).toNat:Int)∧q.to=((bs.getD 2 0).toNat:Int))∧R1=midPk q:=λq h=>by
   rw[hR1];exact decP_head h
 rw[show bs.length-4-3=R1.length from by omega]at ha
 generalize cutAd (some ⟨bb,oo,none⟩) 3 c 1=ad1 at ha hr1
 generalize c-3=c1 at ha hr1
 generalize R1=R1 at ha hr1 hq1
 refine BX 1 ha hs λb33 a w ha hs=>?_
 refine CLX 3 ha hs (rd_num (L:=L) hs (λ_ h=>h.tail.tail) hr1) ?_
 clear ha hs
 rintro e w ⟨x1,ad2,c2,R2,z2,rfl,hx1,hr2,hq2,hs⟩
 refine⟨_,rfl,λa ha=>?_⟩
 refine ST 1 ha hs (λa w ha hs=>?_)
 refine RN 0 ha hs λa ha=>?_
 replace hq2:∀ q,decP bs q→(q.kind=((bs.getD 0 0).toNat:Int)∧q.from'=((bs.getD 1 0).toNat:Int)∧q.to=((bs.getD 2 0).toNat:Int)∧q.id=x1)∧R2=numsPk q∧z2=false:=λq h=>by
   obtain⟨h1,h2⟩:=hq1 q h
   obtain⟨e1,e2,e3⟩:=hq2 q.id (numsPk q) ⟨by have:=h.1.2.2.2.1;omega,by have:=h.1.2.2.2.1;omega⟩ (by rw[h2,midPk]) rfl
   exact⟨⟨h1.1,h1.2.1,h1.2.2,e1.symm⟩,e2,e3⟩
 refine wp_seq_cut (M:=λa w=>∃ (p:Pk) (adP:Option Addr) (cP:Nat) (ad':Option Addr) (c':Nat) (R':List UInt8) (z:Bool),p.sum<4294967296∧(∀ q,decP bs q→p=q∧z=false)∧Fr a 91 [(0,.slice (some ⟨bb,oo,none⟩) bs.length c),(2,pt b2),(4,pt b4),(5,pt b33)]∧St W w (blk b4 203 (pkC p adP cP)::Sl 5 1 adP p.press.length cP (bc p.press)::blk b33 427 [.slice ad' R'.length c',.bool z]::blk b2 203 (pkC pk0 none 0)::L)) ?_ ?_
 ·
  refine IF 4 ha hs (λhc1 a ha=>?_) λhc1 a ha=>?_
  ·
   have hn1:∀ q,decP bs q→numsPk q=putL (zz q.first)++(putL (zz q.ack)++(putL (zz q.frame)++tailPk q))∧(i64P q.first∧i64P q.ack∧i64P q.frame)∧q.press.length≤32:=λq h=>by
     have hk:=(hq2 q h).1.1
     rw[hc1]at hk
     rcases h.1.2.2.2.2 with k | k
     · obtain⟨_,k1,k2,k3,k4⟩:=k
       unfold frP at k1 k2 k3
       exact⟨by rw[numsPk,if_pos hk],⟨⟨by omega,by omega⟩,⟨by omega,by omega⟩,⟨by omega,by omega⟩⟩,k4⟩
     · omega
   refine CLX 2 ha hs (rd_num (L:=L) (hs.perm (List.Perm.swap _ _ _)) (λ_ h=>h.tail.tail) hr2) ?_
   clear ha hs
   rintro e w ⟨x2,ad3,c3,R3,z3,rfl,hx2,hr3,hq3,hs⟩
   refine⟨_,rfl,λa ha=>?_⟩
   replace hq3:∀ q,decP bs q→q.first=x2∧R3=putL (zz q.ack)++(putL (zz q.frame)++tailPk q)∧z3=false:=λq h=>by
     obtain⟨_,h2,h3⟩:=hq2 q h
     obtain⟨e1,e2,e3⟩:=hq3 q.first _ (hn1 q h).2.1.1 (by rw[h2,(hn1 q h).1]) h3
     exact⟨e1.symm,e2,e3⟩
   refine ST 1 ha hs (λa w ha hs=>?_)
   refine CLX 2 ha hs (rd_num (L:=L) (hs.perm (List.Perm.swap _ _ _)) (λ_ h=>h.tail.tail) hr3) ?_
   clear ha hs
   rintro e w ⟨x3,ad4,c4,R4,z4,rfl,hx3,hr4,hq4,hs⟩
   refine⟨_,rfl,λa ha=>?_⟩
   replace hq4:∀ q,decP bs q→q.ack=x3∧R4=putL (zz q.frame)++tailPk q∧z4=false:=λq h=>by
     obtain⟨_,h2,h3⟩:=hq3 q h
     obtain⟨e1,e2,e3⟩:=hq4 q.ack _ (hn1 q h).2.1.2.1 h2 h3
     exact⟨e1.symm,e2,e3⟩
   refine ST 1 ha hs (λa w ha hs=>?_)
   refine CLX 2 ha hs (rd_num (L:=L) (hs.perm (List.Perm.swap _ _ _)) (λ_ h=>h.tail.tail) hr4) ?_
   clear ha hs
   rintro e w ⟨x4,ad5,c5,R5,z5,rfl,hx4,hr5,hq5,hs⟩
   refine⟨_,rfl,λa ha=>?_⟩
   replace hq5:∀ q,decP bs q→q.frame=x4∧R5=fourL q.sum++(putL (zz (q.press.length:Int))++runsL q.press 0)∧z5=false:=λq h=>by
     obtain⟨_,h2,h3⟩:=hq4 q h
     obtain⟨e1,e2,e3⟩:=hq5 q.frame _ (hn1 q h).2.1.2.2 h2 h3
     exact⟨e1.symm,by rw[e2,tailPk],e3⟩
   refine ST 1 ha hs (λa w ha hs=>?_)
   refine CLX 2 ha hs (rd_four (L:=L) (hs.perm (List.Perm.swap _ _ _)) (λ_ h=>h.tail.tail) hr5) ?_
   clear ha hs
   rintro e w ⟨x5,ad6,c6,R6,z6,rfl,hx5,hr6,hq6,hs⟩
   refine⟨_,rfl,λa ha=>?_⟩
   replace hq6:∀ q,decP bs q→q.sum=x5∧R6=putL (zz (q.press.length:Int))++runsL q.press 0∧z6=false:=λq h=>by
     obtain⟨_,h2,h3⟩:=hq5 q h
     obtain⟨e1,e2,e3⟩:=hq6 q.sum _ h.2.1 h2 h3
     exact⟨e1.symm,e2,e3⟩
   refine ST 1 ha hs (λa w ha hs=>?_)
   refine CLX 2 ha hs (rd_num (L:=L) (hs.perm (List.Perm.swap _ _ _)) (λ_ h=>h.tail.tail) hr6) ?_
   clear ha hs
   rintro e w ⟨x6,ad7,c7,R7,z7,rfl,hx6,hr7,hq7,hs⟩
   refine⟨_,rfl,λa ha=>?_⟩
   replace hq7:∀ q,decP bs q→(q.press.length:Int)=x6∧R7=runsL q.press 0∧z7=false:=λq h=>by
     obtain⟨_,h2,h3⟩:=hq6 q h
     have hpl:=(hn1 q h).2.2
     obtain⟨e1,e2,e3⟩:=hq7 q.press.length _ ⟨by omega,by omega⟩ h2 h3
     exact⟨e1.symm,e2,e3⟩
   refine CLX 6 ha hs (runs_dec (m:=32) hs hr7.len hr7.cap (by omega) (λw' hw=>hr7.rd w' hw.tail.tail.tail)) ?_
   clear ha hs
   rintro e w ⟨out,adO,cO,er,rfl,hun,hs⟩
   refine⟨_,rfl,λa ha=>?_⟩
   refine BY 10 ha hs (λhg2 a ha=>?_) λhg2 a ha=>?_
   ·
    refine SA 8 ha hs λa w ha hs=>?_
    refine RT 1 ha hs ?_
    have hno:decO bs=none:=decP_bad λ⟨q,h⟩=>by
      obtain⟨_,e2,_⟩:=hq7 q h
      have:=(hun.2.2 q.press (hn1 q h).2.2 e2).2
      simp[this]at hg2
    exact⟨pk0,none,0,false,rfl,.inr ⟨rfl,hno,rfl,rfl,rfl⟩,hs.sub.sl0 _ _ _⟩
   refine IF 5 ha hs (λhc2 a ha=>?_) λhc2 a ha=>?_
   ·
    refine SA 2 ha hs λa w ha hs=>?_
    refine RT 1 ha hs ?_
    have hno:decO bs=none:=decP_bad λ⟨q,h⟩=>by
      obtain⟨e1,e2,_⟩:=hq7 q h
      have:=(hun.2.2 q.press (hn1 q h).2.2 e2).1
      rw[this]at hc2
      omega
    exact⟨pk0,none,0,false,rfl,.inr ⟨rfl,hno,rfl,rfl,rfl⟩,hs.sub.sl0 _ _ _⟩
   refine ST 2 ha hs (λa w ha hs=>?_)
   refine RN 0 ha hs λa ha=>?_
   refine⟨⟨((bs.getD 0 0).toNat:Int),((bs.getD 1 0).toNat:Int),((bs.getD 2 0).toNat:Int),x1,x2,x3,x4,x5,out⟩,adO,cO,ad7,c7,R7,z7,by assumption,λq h=>?_,ha.keep [0,2,4,5],hs⟩
   obtain⟨h1,h2,h3,h4⟩:=(hq2 q h).1
   have h5:=(hq3 q h).1
   have h6:=(hq4 q h).1
   have h7:=(hq5 q h).1
   have h8:=(hq6 q h).1
   have h9:=hq7 q h
   have h10:=(hun.2.2 q.press (hn1 q h).2.2 h9.2.1).1
   refine⟨?_,h9.2.2⟩
   rw[← h1,← h2,← h3,← h4,← h5,← h6,← h7,← h8,h10]
  refine RN 0 ha hs λa ha=>?_
  refine⟨⟨((bs.getD 0 0).toNat:Int),((bs.getD 1 0).toNat:Int),((bs.getD 2 0).toNat:Int),x1,0,0,0,0,[]⟩,none,0,ad2,c2,R2,z2,by show 0<4294967296;decide,λq h=>?_,ha.keep [0,2,4,5],(hs.sl0 5 1 none).perm (List.Perm.swap _ _ _)⟩
  obtain⟨⟨h1,h2,h3,h4⟩,_,h5⟩:=hq2 q h
  rw[← h1]at hc1
  rcases h.1.2.2.2.2 with k | k
  · exact absurd k.1 hc1
  · obtain⟨k0,k1,k2,k3,k4,k5⟩:=k
    have k4:=List.eq_nil_of_length_eq_zero k4
    refine⟨?_,h5⟩
    rw[← h1,← h2,← h3,← h4]
    cases q
    simp_all
 clear ha;(try clear hs)
 rintro a w ⟨p,adP,cP,ad8,c8,R8,z8,hsum,hq8,ha,hs⟩
 refine CL2 3 ha hs (packet_enc (p:=p) hs hsum (λw' hw=>hw.rdB adP p.press rfl rfl)) λadE cE a w ha hs=>?_
 refine BY 7 ha hs (λhg4 a ha=>?_) λhg4 a ha=>?_
 ·
  refine SA 12 ha hs λa w ha hs=>?_
  refine RT 1 ha hs ?_
  have hno:decO bs=none:=decP_bad λ⟨q,h⟩=>by
    rw[(hq8 q h).2]at hg4;cases hg4
  exact⟨pk0,none,0,false,rfl,.inr ⟨rfl,hno,rfl,rfl,rfl⟩,hs.sub.sl0 _ _ _⟩
 refine BY 4 ha hs (λhg8 a ha=>?_) λhg8 a ha=>?_
 ·
  refine SA 8 ha hs λa w ha hs=>?_
  refine RT 1 ha hs ?_
  have hno:decO bs=none:=decP_bad λ⟨q,h⟩=>by
    have hn:=(hs.rdB adE (encO p) rfl rfl).2.1 (by cases adE with
      | none=>rfl
      | some _=>cases hg8)
    rw[(hq8 q h).1,encO,if_pos h.1,encPk_len]at hn;omega
  exact⟨pk0,none,0,false,rfl,.inr ⟨rfl,hno,rfl,rfl,rfl⟩,hs.sub.sl0 _ _ _⟩
 refine CL 2 ha hs (bytes_equalS hs (hs.rdB adE (encO p) rfl rfl) (hp _ hs.tail.tail.tail.tail.tail)) λa w ha hs=>?_
 refine IF 2 ha hs (λhc3 a ha=>?_) λhc3 a ha=>?_
 ·
  refine SA 2 ha hs λa w ha hs=>?_
  refine RT 1 ha hs ?_
  have hno:decO bs=none:=decP_bad λ⟨q,h⟩=>by
    have e:encO p=bs:=by rw[(hq8 q h).1,encO,if_pos h.1];exact h.2.2
    rw[e]at hc3;simp at hc3
  exact⟨pk0,none,0,false,rfl,.inr ⟨rfl,hno,rfl,rfl,rfl⟩,hs.sub.sl0 _ _ _⟩
 refine SA 2 ha hs λa w ha hs=>?_
 refine RT 1 ha hs ?_
 exact⟨p,adP,cP,true,rfl,.inl ⟨rfl,decO_some ((decP_iff (λe=>by rw[e]at h7;simp at h7) hsum).2 (by simpa using hc3))⟩,hs.sub⟩
end
end
section
section
variable {W w:World}{L:List SP}{c:Nat}{ad:Option Addr}{g:Nat→Int}
theorem state_encode (hs:St W w L):Calls Tryz.prog 177 #[.agg (ints .i32 32 g).toArray] w λe w'=>∃ ad c,e=.returned (.slice ad 128 c)∧St W w' (Sl 5 1 ad 128 c (bc (gameB g))::L):=by
 refine EN Tryz.func177 Tryz.ntmps177 rfl rfl λa ha=>?_
 refine BX 1 ha hs λb1 a w ha hs=>?_
 refine RN 7 ha hs λa ha=>?_
 refine wp_loop_ghost (λμ a w=>∃ (i:Nat) (ad:Option Addr) (c:Nat),(μ=32-i∧i≤32)∧Fr a 16 [(3,.slice ad (gameBn g i).length c),(6,.agg (ints .i32 32 g).toArray),(7,.int .i64 i)]∧St W w (Sl 5 1 ad (gameBn g i).length c (bc (gameBn g i))::L)) (32) (⟨0,none,0,⟨rfl,by omega⟩,ha.keep [3,6,7],hs.tail.sl0 5 1 none⟩) ?_
 clear ha hs
 rintro μ a w ⟨i,ad,c,⟨rfl,hi⟩,ha,hs⟩
 refine IF 3 ha hs (λhc0 a ha=>?_) λhc0 a ha=>?_
 ·
  have hi32:i<32:=by omega
  have hgl:=gameBn_len g i
  refine RN 2 ha hs λa ha=>?_
  refine SS ha (ex_index1 ha Tryz.underlying183 Tryz.underlying21 rfl Ty.t21 (by omega) (ints_get g hi32)) λa ha=>?_
  refine CL1 3 ha hs (word_put hs) λad2 a w ha hs=>?_
  refine RN 0 ha hs λa ha=>?_
  refine st_appendT ha rfl hs Tryz.underlying22 Ty.t5 rfl rfl (by decide) (λh0=>(hs.rdB ad2 (fourL (unI (g i))) rfl rfl).get h0) (by rw[bc_len];rfl) (bc_one _) (by rw[fourL_len];omega) λad13 c13 a w ha hs=>?_
  rw[← bc_app,← gameBn_succ]at hs
  rw[show (gameBn g i).length+(fourL (unI (g i))).length=(gameBn g (i+1)).length from by rw[gameBn_len,gameBn_len,fourL_len];omega]at ha hs
  refine RN 3 ha hs λa ha=>?_
  exact⟨32-(i+1),by omega,i+1,_,_,⟨rfl,by omega⟩,ha.keep [3,6,7],hs.sub⟩
 obtain rfl:i=32:=by omega
 rw[show (gameBn g 32).length=128 from gameBn_len g 32]at ha hs
 refine RT 3 ha hs ?_
 exact⟨_,_,rfl,hs⟩
theorem state_sum (hs:St W w L):Calls Tryz.prog 139 #[.agg (ints .i32 32 g).toArray] w λe w'=>e=.returned (.int .u32 (crcSum (gameB g)))∧St W w' L:=by
 refine EN Tryz.func139 Tryz.ntmps139 rfl rfl λa ha=>?_
 refine BX 1 ha hs λb1 a w ha hs=>?_
 refine CL2 3 ha hs (state_encode hs) λad c a w ha hs=>?_
 rw[show 128=(gameB g).length from (gameB_len g).symm]at ha hs
 refine CL 0 ha hs (crc_sum hs (by rw[gameB_len];decide) (λw' hw=>hw.rdB ad (gameB g) rfl rfl)) λa w ha hs=>?_
 refine RT 1 ha hs ?_
 exact⟨rfl,hs.sub⟩
end
end
section
def putLn (l:List UInt8)(f:Nat)(b:List UInt8):List UInt8:=if l.length<f then l else l++(b.drop (l.length-f)).take (1000-l.length)
theorem putLn_len {l:List UInt8}{f:Nat}{b:List UInt8}(h:l.length≤1000):l.length≤(putLn l f b).length∧(putLn l f b).length≤1000:=by
 unfold putLn
 split
 · omega
 · rw[List.length_append,List.length_take];omega
theorem putLn_add {l b:List UInt8}{f i:Nat}(hf:f≤l.length)(hi:i<b.length)(h1:l.length-f≤i)(h2:l.length+(i-(l.length-f))<1000) :
   l++(b.drop (l.length-f)).take (i+1-(l.length-f))=(l++(b.drop (l.length-f)).take (i-(l.length-f)))++[b[i]]:=by
 rw[show i+1-(l.length-f)=(i-(l.length-f))+1 from by omega,List.append_assoc]
 congr 1
 rw[List.take_succ_eq_append_getElem (by rw[List.length_drop];omega)]
 congr 2
 rw[List.getElem_drop]
 congr 1
 omega
def frontN (ls:List (List UInt8)):Nat→Nat
 | 0=>(ls.headD []).length
 | i+1=>min (frontN ls i) (ls.getD i []).length
def frontL (ls:List (List UInt8)):Nat:=frontN ls ls.length
theorem frontN_le {ls:List (List UInt8)}:∀ {i j:Nat},j<i→frontN ls i≤(ls.getD j []).length
 | 0,_,h=>absurd h (by omega)
 | i+1,j,h=>by
   rw[frontN]
   by_cases hj:j=i
   · subst hj;exact Nat.min_le_right _ _
   · exact Nat.le_trans (Nat.min_le_left _ _) (frontN_le (by omega))
theorem frontL_le {ls:List (List UInt8)}{l:List UInt8}(h:l∈ls):frontL ls≤l.length:=by
 obtain⟨i,hi,rfl⟩:=List.getElem_of_mem h
 have:=frontN_le (ls:=ls) (i:=ls.length) hi
 rwa [List.getD_eq_getElem?_getD,List.getElem?_eq_getElem hi]at this
theorem frontN_some (ls:List (List UInt8)):∀ i,i≤ls.length→ls≠[]→∃ l∈ls,frontN ls i=l.length
 | 0,_,h=>by
   cases ls with
   | nil=>exact absurd rfl h
   | cons a r=>exact⟨a,by simp,rfl⟩
 | i+1,hi,h=>by
   obtain⟨l,hl,e⟩:=frontN_some ls i (by omega) h
   rw[frontN]
   rcases Nat.le_total (frontN ls i) (ls.getD i []).length with h1 | h1
   · rw[Nat.min_eq_left h1];exact⟨l,hl,e⟩
   · rw[Nat.min_eq_right h1,List.getD_eq_getElem?_getD,List.getElem?_eq_getElem (by omega)]
     exact⟨ls[i],List.getElem_mem _,rfl⟩
theorem frontL_some {ls:List (List UInt8)}(h:ls≠[]):∃ l∈ls,frontL ls=l.length:=frontN_some ls _ (Nat.le_refl _) h
theorem frontL_ge {ls:List (List UInt8)}{n:Nat}(h:ls≠[])(hn:∀ l∈ls,n≤l.length):n≤frontL ls:=by
 obtain⟨l,hl,e⟩:=frontL_some h
 rw[e];exact hn l hl
def jointN (ls:List (List UInt8))(f i:Nat):List UInt8:=(ls.take i).map (·.getD f 0)
def jointL (ls:List (List UInt8))(f:Nat):List UInt8:=ls.map (·.getD f 0)
theorem jointN_all (ls:List (List UInt8))(f:Nat):jointN ls f ls.length=jointL ls f:=by rw[jointN,List.take_length,jointL]
theorem jointN_succ {ls:List (List UInt8)}{f i:Nat}(h:i<ls.length):jointN ls f (i+1)=jointN ls f i++[ls[i].getD f 0]:=by
 rw[jointN,List.take_succ_eq_append_getElem h,List.map_append];rfl
theorem jointN_len {ls:List (List UInt8)}{f i:Nat}(h:i≤ls.length):(jointN ls f i).length=i:=by
 rw[jointN,List.length_map,List.length_take];omega
theorem jointL_len (ls:List (List UInt8))(f:Nat):(jointL ls f).length=ls.length:=by rw[jointL,List.length_map]
structure Gs where
 kind:Int
 order:Int
 table:List UInt8
def mayGs (b:Gs):Prop:=(b.kind=1∧b.order=0∧b.table.length=0)∨(b.kind=2∧0≤b.order∧b.order≤3∧b.table.length=0)∨(b.kind=3∧b.order=0∧1≤b.table.length∧b.table.length≤1000)
instance (b:Gs):Decidable (mayGs b):=inferInstanceAs (Decidable (_∨_))
def endsB (o:Nat)(past:List UInt8)(i:Nat):Bool:=(past.drop (i-o)).take o==past.drop (past.length-o)
def wtN (o:Nat)(past:List UInt8):Nat→Nat→Int
 | 0=>λ_=>0
 | i+1=>if o≤i∧endsB o past i=true then upd (wtN o past i) (past.getD i 0).toNat (wtN o past i (past.getD i 0).toNat+1) else wtN o past i
theorem wtN_low {o:Nat}{past:List UInt8}:∀ {i:Nat},i≤o→wtN o past i=λ_=>0
 | 0,_=>rfl
 | i+1,h=>by rw[wtN,if_neg (by omega),wtN_low (by omega)]
theorem wtN_bd (o:Nat)(past:List UInt8):∀ (i v:Nat),0≤wtN o past i v∧wtN o past i v≤i
 | 0,v=>⟨Int.le_refl _,Int.le_refl _⟩
 | i+1,v=>by
   have h:=wtN_bd o past i v
   have h2:=wtN_bd o past i (past.getD i 0).toNat
   rw[wtN]
   split
   · unfold upd
     split <;> omega
   · omega
def wtL (b:Gs)(past:List UInt8):Nat→Int:=if b.kind=2 then wtN b.order.toNat past past.length else λ_=>0
def lastB (past:List UInt8):UInt8:=past.getLastD 0
def bestN (w:Nat→Int)(last:Nat):Nat→Nat
 | 0=>last
 | i+1=>if w (bestN w last i)<w i then i else bestN w last i
theorem bestN_lt {w:Nat→Int}{last:Nat}(hl:last<256):∀ {i:Nat},i≤256→bestN w last i<256
 | 0,_=>hl
 | i+1,h=>by
   rw[bestN]
   split
   · omega
   · exact bestN_lt hl (by omega)
def firstB (b:Gs)(past:List UInt8):UInt8:=if b.kind=3 then b.table.getD (past.length%b.table.length) 0 else UInt8.ofNat (bestN (wtL b past) (lastB past).toNat 256)
def chainN (b:Gs)(past:List UInt8):Nat→List UInt8
 | 0=>past
 | i+1=>chainN b past i++[firstB b (chainN b past i)]
theorem chainN_len (b:Gs)(past:List UInt8):∀ i,(chainN b past i).length=past.length+i
 | 0=>rfl
 | i+1=>by rw[chainN,List.length_append,chainN_len b past i];rfl
theorem chainN_take (b:Gs)(past:List UInt8):∀ i,(chainN b past i).take past.length=past
 | 0=>List.take_length
 | i+1=>by
   rw[chainN,List.take_append_of_le_length (by rw[chainN_len];omega),chainN_take b past i]
def chainB (b:Gs)(past:List UInt8)(n:Nat):List UInt8:=(chainN b past n).drop past.length
theorem chainB_len (b:Gs)(past:List UInt8)(n:Nat):(chainB b past n).length=n:=by rw[chainB,List.length_drop,chainN_len];omega
theorem chain_all (b:Gs)(past:List UInt8)(n:Nat):past++chainB b past n=chainN b past n:=by
 conv=>lhs;lhs;rw[← chainN_take b past n]
 rw[chainB,List.take_append_drop]
def fullB (b:Gs)(past:List UInt8)(to:Nat):List UInt8:=chainN b past (to-past.length)
def fullL (b:Gs)(ls:List (List UInt8))(to:Nat):List (List UInt8):=ls.map λl=>fullB b l to
def aheadL (b:Gs)(ls:List (List UInt8))(to:Nat):List (List UInt8):=(List.range (to-frontL ls)).map λi=>jointL (fullL b ls to) (frontL ls+i)
theorem aheadL_len (b:Gs)(ls:List (List UInt8))(to:Nat):(aheadL b ls to).length=to-frontL ls:=by simp[aheadL]
end
section
abbrev Lx:=Nat×List UInt8
def Ln (x:Lx):SP:=λh=>∃ (ad:Option Addr) (c:Nat),sepL [blk x.1 328 [.slice ad x.2.length c],Sl 5 1 ad x.2.length c (bc x.2)] h
section
variable {W w:World}{L L' R:List SP}{n c m lb:Nat}{ad:Option Addr}{l bs:List UInt8}{x:UInt8}
theorem Ln.open (hs:St W w (Ln (lb,l)::L)):∃ (ad:Option Addr) (c:Nat),St W w (blk lb 328 [.slice ad l.length c]::Sl 5 1 ad l.length c (bc l)::L):=by
 obtain⟨ad,_,hs⟩:=hs.exi (p:=λ_=>True) (B:=λad h=>∃ c,sepL [blk lb 328 [.slice ad l.length c],Sl 5 1 ad l.length c (bc l)] h) λ_ ⟨ad,c,h⟩=>⟨ad,trivial,c,h⟩
 obtain⟨c,_,hs⟩:=hs.exi (p:=λ_=>True) (B:=λc h=>sepL [blk lb 328 [.slice ad l.length c],Sl 5 1 ad l.length c (bc l)] h) λ_ ⟨c,h⟩=>⟨c,trivial,h⟩
 exact⟨ad,c,hs.open (M:=[_,_]) λ_ h=>h⟩
theorem Ln.close (hs:St W w (blk lb 328 [.slice ad l.length c]::Sl 5 1 ad l.length c (bc l)::L)):St W w (Ln (lb,l)::L) :=
 St.shut (M:=[_,_]) hs λ_ h=>⟨ad,c,h⟩
theorem Ln.mk' (hs:St W w L)(ad:Option Addr)(c:Nat)[k:Arr L (blk lb 328 [.slice ad l.length c]::Sl 5 1 ad l.length c (bc l)::L') R]:St W w (Ln (lb,l)::L'):=Ln.close (ad:=ad) (c:=c) hs.sub
theorem made8 (d:Nat):(madeCells (Value.int .u8 0).cells (d*1)).toList=bc (List.replicate d 0):=by
 apply List.ext_getElem?
 intro i
 by_cases h:i<d
 · rw[bc_at (by simpa using h)]
   rw[madeCells,Array.getElem?_toList,Array.getElem?_map,Array.getElem?_range]
   simp[h,Value.cells,Nat.mod_one]
 · rw[List.getElem?_eq_none (by simp[madeCells];omega),List.getElem?_eq_none (by rw[bc_len];simp;omega)]
theorem St.slWhole {b e sz m:Nat}{cs:List Value}(hs:St W w (blk b e cs::L))(h:cs.length=m*sz):St W w (Sl e sz (some ⟨b,0,none⟩) m m cs::L) :=
 St.slShut (pre:=[]) (post:=[]) (n:=m) (c:=m) (sz:=sz) (cs:=cs) (by simpa using hs) h (Nat.le_refl _) (by rw[Nat.sub_self,Nat.zero_mul];exact Nat.zero_le _)
theorem RdB.cutLH {w:World}{ad:Option Addr}{bs:List UInt8}{c lo n:Nat}(h:RdB w ad bs.length bs)(hl:lo+n≤bs.length)(hc:bs.length≤c):RdB w (cutAd ad lo c 1) n ((bs.drop lo).take n) :=
 (h.cutL (lo:=lo) (by omega) hc).cutH (by rw[List.length_drop];omega)
theorem line_new {d:Nat}(hs:St W w L)(hd:d≤8):Calls Tryz.prog 168 #[.int .i64 d] w λe w'=>∃ lb,e=.returned (pt lb)∧St W w' (Ln (lb,List.replicate d 0)::L):=by
 refine EN Tryz.func168 Tryz.ntmps168 rfl rfl λa ha=>?_
 refine RN 6 ha hs λa ha=>?_
 rw[show min (max (d:Int) 0) 8=(d:Int) from by omega]at ha
 refine st_makeSlice ha rfl hs Tryz.underlying22 Ty.t5 rfl (by omega) (by omega) λb6 a w ha hs ho=>?_
 clear ho
 rw[made8]at hs
 replace hs:=hs.slWhole (m:=d) (sz:=1) (by rw[bc_len,List.length_replicate,Nat.mul_one])
 refine BX 1 ha hs λb8 a w ha hs=>?_
 refine RN 1 ha hs λa ha=>?_
 replace hs:St W w (blk b8 328 [.slice (some ⟨b6,0,none⟩) (List.replicate d (0:UInt8)).length d]::Sl 5 1 (some ⟨b6,0,none⟩) (List.replicate d (0:UInt8)).length d (bc (List.replicate d 0))::L):=by
   rw[List.length_replicate];exact hs
 refine RT 0 ha hs ?_
 exact⟨b8,rfl,Ln.close hs⟩
theorem line_len (hs:St W w (Ln (lb,l)::L)):Calls Tryz.prog 172 #[pt lb] w λe w'=>e=.returned (.int .i64 l.length)∧St W w' (Ln (lb,l)::L):=by
 obtain⟨ad,c,hs⟩:=Ln.open hs
 refine EN Tryz.func172 Tryz.ntmps172 rfl rfl λa ha=>?_
 refine RN 6 ha hs λa ha=>?_
 replace ha:=ha.isF 4
 refine RT 8 ha hs ?_
 exact⟨rfl,Ln.close hs⟩
theorem line_at {f:Nat}(hs:St W w (Ln (lb,l)::L)):Calls Tryz.prog 173 #[pt lb,.int .i64 f] w λe w'=>e=.returned (.tuple #[.int .u8 ((l.getD f 0).toNat:Nat),.bool (decide (f<l.length))])∧St W w' (Ln (lb,l)::L):=by
 refine EN Tryz.func173 Tryz.ntmps173 rfl rfl λa ha=>?_
 refine RN 8 ha hs λa ha=>?_
 rw[decide_eq_false (by omega)]at ha
 refine CL 2 ha hs (line_len hs) λa w ha hs=>?_
 refine IF 2 ha hs (λhc0 a ha=>?_) λhc0 a ha=>?_
 ·
  refine RT 3 ha hs ?_
  exact⟨by rw[List.getD_eq_getElem?_getD,List.getElem?_eq_none (by omega),decide_eq_false (by omega)];rfl,hs⟩
 obtain⟨ad,c,hs⟩:=Ln.open hs
 have hfl:f<l.length:=by omega
 obtain⟨b,o,rfl,hr⟩:=(hs.rdB ad l rfl rfl).get (by omega)
 refine RN 7 ha hs λa ha=>?_
 refine SS ha (ld1 ha (hr f _ (bc_atD hfl))) λa ha=>?_
 refine RT 2 ha hs ?_
 exact⟨by rw[decide_eq_true hfl],Ln.close hs⟩
theorem line_add (hs:St W w (Ln (lb,l)::L))(hl:l.length≤1000):Calls Tryz.prog 314 #[pt lb,.int .u8 (x.toNat:Nat)] w λe w'=>e=.returned (.int .i64 (if l.length<1000 then 0 else 4))∧St W w' (Ln (lb,if l.length<1000 then l++[x] else l)::L):=by
 obtain⟨ad,c,hs⟩:=Ln.open hs
 refine EN Tryz.func314 Tryz.ntmps314 rfl rfl λa ha=>?_
 refine RN 7 ha hs λa ha=>?_
 replace ha:=ha.isF 5
 refine IF 9 ha hs (λhc1 a ha=>?_) λhc1 a ha=>?_
 ·
  refine RT 2 ha hs ?_
  exact⟨by rw[if_neg (by omega)],by rw[if_neg (by omega)];exact Ln.close hs⟩
 refine RN 7 ha hs λa ha=>?_
 refine st_buildSlice ha rfl hs Tryz.underlying22 Ty.t5 rfl rfl rfl rfl (by decide) (by decide) λb21 a w ha hs ho=>?_
 clear ho
 refine RN 0 ha hs λa ha=>?_
 refine st_append ha rfl hs Tryz.underlying22 Ty.t5 rfl rfl hs.rdAll rfl (bc_one [x]) (by decide) (by decide) (by omega) λad22 c22 a w ha hs=>?_
 rw[show bc l++_=bc (l++[x]) from (bc_app l [x]).symm]at hs
 refine ST 2 ha hs (λa w ha hs=>?_)
 refine RN 0 ha hs λa ha=>?_
 rw[show l.length+1=(l++[x]).length from by simp]at hs
 replace hs:=hs.sub (M:=blk lb 328 [.slice ad22 (l++[x]).length c22]::Sl 5 1 ad22 (l++[x]).length c22 (bc (l++[x]))::L)
 refine RT 2 ha hs ?_
 exact⟨by rw[if_pos (by omega)],by rw[if_pos (by omega)];exact Ln.close hs⟩
theorem line_put {f:Nat}(hs:St W w (Ln (lb,l)::L))(hl:l.length≤1000)(hb:bs.length≤65536)(hp:∀ w',St W w' L→RdB w' ad bs.length bs) :
   Calls Tryz.prog 318 #[pt lb,.int .i64 f,.slice ad bs.length c] w λe w'=>∃ n er:Int,e=.returned (.tuple #[.int .i64 n,.int .i64 er])∧St W w' (Ln (lb,putLn l f bs)::L):=by
 refine EN Tryz.func318 Tryz.ntmps318 rfl rfl λa ha=>?_
 refine RN 8 ha hs λa ha=>?_
 replace ha:=ha.isF 11
 refine RN 5 ha hs λa ha=>?_
 rw[decide_eq_false (by omega)]at ha
 refine RN 2 ha hs λa ha=>?_
 obtain⟨adl,cl,hs⟩:=Ln.open hs
 refine IF 8 ha hs (λhc2 a ha=>?_) λhc2 a ha=>?_
 ·
  replace hs:=Ln.close hs
  refine RT 3 ha hs ?_
  exact⟨_,_,rfl,by rw[putLn,if_pos (by omega)];exact hs⟩
 refine RN 11 ha hs λa ha=>?_
 rw[show ((l.length:Nat):Int)-(f:Int)=((l.length-f:Nat):Int) from by omega]at ha
 refine RN 1 ha hs λa ha=>?_
 replace hs:=Ln.close hs
 have hfl:f≤l.length:=by omega
 refine wp_loop_ghost (λμ a w=>∃ (i:Nat),(μ=bs.length-i∧l.length-f≤i∧(i≤bs.length∨i=l.length-f)∧l.length+(i-(l.length-f))≤1000)∧Fr a 51 [(0,pt lb),(2,.slice ad bs.length c),(8,.int .i64 (i-(l.length-f):Nat)),(9,.int .i64 i)]∧St W w (Ln (lb,l++(bs.drop (l.length-f)).take (i-(l.length-f)))::L)) (bs.length-(l.length-f)) (⟨l.length-f,⟨rfl,Nat.le_refl _,.inr rfl,by omega⟩,by rw[Nat.sub_self];exact ha.keep [0,2,8,9],by rw[Nat.sub_self,List.take_zero,List.append_nil];exact hs⟩) ?_
 clear ha hs
 rintro μ a w ⟨i,⟨rfl,hi,hib,hi1⟩,ha,hs⟩
 refine IF 6 ha hs (λhc3 a ha=>?_) λhc3 a ha=>?_
 ·
  obtain⟨bb,oo,rfl,hr⟩:=(hp _ hs.tail).get (by omega)
  have hil:i<bs.length:=by omega
  have hlen:(l++(bs.drop (l.length-f)).take (i-(l.length-f))).length=l.length+(i-(l.length-f)):=by rw[List.length_append,List.length_take,List.length_drop];omega
  refine RN 7 ha hs λa ha=>?_
  refine SS ha (ld1 ha (hr i _ (bc_at hil))) λa ha=>?_
  refine CL 0 ha hs (line_add hs (by rw[hlen];omega)) λa w ha hs=>?_
  rw[hlen]at ha hs
  refine IF 4 ha hs (λhc4 a ha=>?_) λhc4 a ha=>?_
  ·
   have h9:¬ l.length+(i-(l.length-f))<1000:=λh=>hc4 (if_pos h)
   rw[if_neg h9]at hs
   refine RT 5 ha hs ?_
   exact⟨_,_,rfl,by rw[putLn,if_neg (by omega),show 1000-l.length=i-(l.length-f) from by omega];exact hs⟩
  have h9:l.length+(i-(l.length-f))<1000:=Decidable.of_not_not λh=>by rw[if_neg h]at hc4;cases hc4
  rw[if_pos h9]at hs
  refine RN 6 ha hs λa ha=>?_
  exact⟨bs.length-(i+1),by omega,i+1,⟨rfl,by omega,by omega,by omega⟩,by rw[show ((i+1-(l.length-f):Nat):Int)=((i-(l.length-f):Nat):Int)+1 from by omega];exact ha.keep [0,2,8,9],by rw[putLn_add hfl hil hi h9];exact hs⟩
 refine RT 4 ha hs ?_
 exact⟨_,_,rfl,by rw[putLn,if_neg (by omega),List.take_of_length_le (by rw[List.length_drop];omega)];rw[List.take_of_length_le (by rw[List.length_drop];omega)]at hs;exact hs⟩
theorem line_from {f k:Nat}(hs:St W w (Ln (lb,l)::L))(hl:l.length≤1000)(hf:f≤1000)(hk:1≤k∧k≤1000) :
   Calls Tryz.prog 309 #[pt lb,.int .i64 f,.int .i64 k] w λe w'=>∃ ad' c',e=.returned (.slice ad' ((l.drop f).take k).length c')∧St W w' (Sl 5 1 ad' ((l.drop f).take k).length c' (bc ((l.drop f).take k))::Ln (lb,l)::L):=by
 have htl:((l.drop f).take k).length=min l.length (f+k)-f:=by rw[List.length_take,List.length_drop];omega
 refine EN Tryz.func309 Tryz.ntmps309 rfl rfl λa ha=>?_
 refine RN 7 ha hs λa ha=>?_
 rw[decide_eq_false (by omega)]at ha
 refine CL 2 ha hs (line_len hs) λa w ha hs=>?_
 refine BY 3 ha hs (λhg8 a ha=>?_) λhg8 a ha=>?_
 ·
  have hz:(l.drop f).take k=[]:=by rw[List.drop_eq_nil_of_le (by omega),List.take_nil]
  refine RT 6 ha hs ?_
  rw[hz];exact⟨_,_,rfl,hs.sl0 _ _ none⟩
 refine RN 3 ha hs λa ha=>?_
 rw[decide_eq_false (by omega)]at ha
 refine RN 2 ha hs λa ha=>?_
 obtain⟨adl,cl,hs⟩:=Ln.open hs
 have hcl:=(hs.sl adl).2
 refine DWO 0 [8,9,14] [0,1,2,4,5,6,7,10,11,12,13,3003,1008,1009,1014,15,1016,17] ha hs λa w ha hs hH hC=>?_
 refine RH 10 ha hs hH hC λa ha=>?_
 rw[show min (k:Int) 1000=(k:Int) from by omega]at ha
 refine RH 5 ha hs hH hC λa ha=>?_
 rw[show min (l.length:Int) ((f:Int)+(k:Int))=((min l.length (f+k):Nat):Int) from by omega]at ha
 refine RH 1 ha hs hH hC λa ha=>?_
 refine CL2 0 ha hs (bytes_clone (bs:=(l.drop f).take k) hs (λw' hw=>by have h1:=(hw.rdB adl l rfl rfl).cutLH (c:=cl) (lo:=f) (n:=min l.length (f+k)-f) (by omega) hcl;rw[show (l.drop f).take (min l.length (f+k)-f)=(l.drop f).take k from by rw[← htl,List.take_eq_take_iff,List.length_take,List.length_drop];omega]at h1;exact h1) (by omega)) λad3 c3 a w ha hs=>?_
 refine RN 1 ha hs λa ha=>?_
 refine RT 0 ha hs ?_
 exact⟨ad3,c3,by rw[htl],by rw[htl];exact (Ln.mk' (L':=Sl 5 1 ad3 (min l.length (f+k)-f) c3 (bc ((l.drop f).take k))::L) hs adl cl).perm (List.Perm.swap _ _ _)⟩
theorem line_all (hs:St W w (Ln (lb,l)::L))(hl:l.length≤1000) :
   Calls Tryz.prog 293 #[pt lb] w λe w'=>∃ ad' c',e=.returned (.slice ad' l.length c')∧St W w' (Sl 5 1 ad' l.length c' (bc l)::Ln (lb,l)::L):=by
 have hta:(l.drop 0).take 1000=l:=by rw[List.drop_zero,List.take_of_length_le hl]
 refine EN Tryz.func293 Tryz.ntmps293 rfl rfl λa ha=>?_
 refine CL2 4 ha hs (line_from (f:=0) (k:=1000) hs hl (by decide) (by decide)) λad3 c3 a w ha hs=>?_
 rw[hta]at ha hs
 refine RT 1 ha hs ?_
 exact⟨_,_,rfl,hs⟩
end
end
section
def lpt (x:Lx):Value:=pt x.1
def Qu (qb:Nat)(lbs:List Nat)(ls:List (List UInt8)):SP:=λh=>∃ (ad:Option Addr) (c:Nat),lbs.length=ls.length∧sepL [blk qb 288 [.slice ad ls.length c],Sl 289 1 ad ls.length c ((lbs.zip ls).map lpt),All Ln (lbs.zip ls)] h
section
variable {W w:World}{L L' R:List SP}{n c qb lb i f:Nat}{ad:Option Addr}{ls:List (List UInt8)}{lbs:List Nat}{l:List UInt8}{x:UInt8}
theorem Qu.open (hs:St W w (Qu qb lbs ls::L)):∃ (ad:Option Addr) (c:Nat),lbs.length=ls.length∧St W w (blk qb 288 [.slice ad ls.length c]::Sl 289 1 ad ls.length c ((lbs.zip ls).map lpt)::All Ln (lbs.zip ls)::L):=by
 obtain⟨⟨ad,c⟩,hl,hs⟩:=hs.exi (ι:=Option Addr×Nat) (p:=λ_=>lbs.length=ls.length) (B:=λy h=>sepL [blk qb 288 [.slice y.1 ls.length y.2],Sl 289 1 y.1 ls.length y.2 ((lbs.zip ls).map lpt),All Ln (lbs.zip ls)] h) λ_ ⟨ad,c,hl,h⟩=>⟨(ad,c),hl,h⟩
 exact⟨ad,c,hl,hs.open (M:=[_,_,_]) λ_ h=>h⟩
theorem Qu.close (hs:St W w (blk qb 288 [.slice ad ls.length c]::Sl 289 1 ad ls.length c ((lbs.zip ls).map lpt)::All Ln (lbs.zip ls)::L))(hl:lbs.length=ls.length):St W w (Qu qb lbs ls::L) :=
 St.shut (M:=[_,_,_]) hs λ_ h=>⟨ad,c,hl,h⟩
theorem Qu.mk' (hs:St W w L)(ad:Option Addr)(c:Nat)[k:Arr L (blk qb 288 [.slice ad ls.length c]::Sl 289 1 ad ls.length c ((lbs.zip ls).map lpt)::All Ln (lbs.zip ls)::L') R](hl:lbs.length=ls.length):St W w (Qu qb lbs ls::L'):=Qu.close (ad:=ad) (c:=c) hs.sub hl
theorem zip_at {lbs:List Nat}{ls:List (List UInt8)}(hl:lbs.length=ls.length){i:Nat}(h:i<ls.length):(lbs.zip ls)[i]?=some (lbs.getD i 0,ls.getD i []):=by
 rw[List.getElem?_zip_eq_some]
 simp only[List.getD_eq_getElem?_getD]
 rw[List.getElem?_eq_getElem h,List.getElem?_eq_getElem (by omega)]
 exact⟨rfl,rfl⟩
def QuH (qb:Nat)(lbs:List Nat)(ls:List (List UInt8))(i:Nat):SP:=λh=>∃ (ad:Option Addr) (c:Nat),lbs.length=ls.length∧sepL [blk qb 288 [.slice ad ls.length c],Sl 289 1 ad ls.length c ((lbs.zip ls).map lpt),All Ln ((lbs.zip ls).eraseIdx i)] h
theorem Qu.out (hs:St W w (Qu qb lbs ls::L))(h:i<ls.length):St W w (Ln (lbs.getD i 0,ls.getD i [])::QuH qb lbs ls i::L):=by
 obtain⟨ad,c,hl,hs⟩:=Qu.open hs
 have hz:=zip_at hl h
 obtain⟨hi,he⟩:=List.getElem?_eq_some_iff.1 hz
 replace hs:=(hs.pick (All Ln (lbs.zip ls))).allOut hi
 rw[he]at hs
 have h2:St W w (blk qb 288 [.slice ad ls.length c]::Sl 289 1 ad ls.length c ((lbs.zip ls).map lpt)::All Ln ((lbs.zip ls).eraseIdx i)::Ln (lbs.getD i 0,ls.getD i [])::L):=hs.sub
 exact (St.shut (M:=[_,_,_]) h2 λ_ h=>⟨ad,c,hl,h⟩:St W w (QuH qb lbs ls i::Ln (lbs.getD i 0,ls.getD i [])::L)).perm (List.Perm.swap _ _ _)
theorem map_set {α β:Type}(f:α→β)(l:List α)(i:Nat)(x:α):(l.set i x).map f=(l.map f).set i (f x):=by
 apply List.ext_getElem? ;intro j
 simp only[List.getElem?_map,List.getElem?_set,List.length_map]
 split
 · split <;> rfl
 · rfl
theorem zip_set {lbs:List Nat}{ls:List (List UInt8)}(hl:lbs.length=ls.length){i:Nat}(h:i<ls.length)(l:List UInt8):lbs.zip (ls.set i l)=(lbs.zip ls).set i (lbs.getD i 0,l):=by
 apply List.ext_getElem?;intro j
 by_cases hj:j<ls.length
 · rw[zip_at (by simpa using hl) (by simpa using hj),List.getElem?_set]
   by_cases hij:i=j
   · subst hij
     rw[if_pos rfl,if_pos (by simp;omega)]
     simp[List.getD_eq_getElem?_getD,h]
   · rw[if_neg hij,zip_at hl hj]
     simp[List.getD_eq_getElem?_getD,List.getElem?_set_ne hij]
 · rw[List.getElem?_eq_none (by simp;omega),List.getElem?_eq_none (by simp;omega)]
theorem Qu.in (hs:St W w (Ln (lbs.getD i 0,l)::QuH qb lbs ls i::L))(h:i<ls.length):St W w (Qu qb lbs (ls.set i l)::L):=by
 obtain⟨⟨ad,c⟩,hl,hs⟩:=(hs.pick (QuH qb lbs ls i)).exi (ι:=Option Addr×Nat) (p:=λ_=>lbs.length=ls.length) (B:=λy h=>sepL [blk qb 288 [.slice y.1 ls.length y.2],Sl 289 1 y.1 ls.length y.2 ((lbs.zip ls).map lpt),All Ln ((lbs.zip ls).eraseIdx i)] h) λ_ ⟨ad,c,hl,h⟩=>⟨(ad,c),hl,h⟩
 replace hs:St W w (blk qb 288 [.slice ad ls.length c]::Sl 289 1 ad ls.length c ((lbs.zip ls).map lpt)::All Ln ((lbs.zip ls).eraseIdx i)::Ln (lbs.getD i 0,l)::L):=hs.open (M:=[_,_,_]) λ_ h=>h
 have hz:=zip_at hl h
 obtain⟨hi,he⟩:=List.getElem?_eq_some_iff.1 hz
 have h1:St W w (Ln (lbs.getD i 0,l)::All Ln ((lbs.zip ls).eraseIdx i)::blk qb 288 [.slice ad ls.length c]::Sl 289 1 ad ls.length c ((lbs.zip ls).map lpt)::L):=hs.sub
 replace h1:=h1.allPut hi
 rw[← zip_set hl h]at h1
 have hls:ls.length=(ls.set i l).length:=by rw[List.length_set]
 have hp:(lbs.zip ls).map lpt=(lbs.zip (ls.set i l)).map lpt:=by
   rw[zip_set hl h,map_set]
   symm
   apply List.ext_getElem?;intro j
   rw[List.getElem?_set]
   split
   · rename_i hj;subst hj
     split
     · rw[List.getElem?_map,hz];rfl
     · rw[List.getElem?_eq_none (by omega)]
   · rfl
 rw[hp,hls]at h1
 exact Qu.mk' h1 ad c (by rw[← hls];exact hl)
theorem set_sameQ {ls:List (List UInt8)}{i:Nat}:ls.set i (ls.getD i [])=ls:=by
 apply List.ext_getElem?;intro j
 rw[List.getElem?_set]
 split
 · rename_i h;subst h
   split
   · rename_i h;rw[List.getD_eq_getElem?_getD,List.getElem?_eq_getElem h];rfl
   · rw[List.getElem?_eq_none (by omega)]
 · rfl
theorem Qu.back (hs:St W w (Ln (lbs.getD i 0,ls.getD i [])::QuH qb lbs ls i::L))(h:i<ls.length):St W w (Qu qb lbs ls::L):=by
 have:=Qu.in hs h
 rwa [set_sameQ]at this
theorem q_len (hs:St W w (Qu qb lbs ls::L))(h:i<ls.length):Calls Tryz.prog 172 #[.pointer (some ⟨lbs.getD i 0,0,none⟩)] w λe w'=>e=.returned (.int .i64 (ls.getD i []).length)∧St W w' (Qu qb lbs ls::L) :=
 (line_len (Qu.out hs h)).mono λ_ _ ⟨he,hs⟩=>⟨he,Qu.back hs h⟩
theorem q_at (hs:St W w (Qu qb lbs ls::L))(h:i<ls.length):Calls Tryz.prog 173 #[.pointer (some ⟨lbs.getD i 0,0,none⟩),.int .i64 f] w λe w'=>e=.returned (.tuple #[.int .u8 (((ls.getD i []).getD f 0).toNat:Nat),.bool (decide (f<(ls.getD i []).length))])∧St W w' (Qu qb lbs ls::L) :=
 (line_at (Qu.out hs h)).mono λ_ _ ⟨he,hs⟩=>⟨he,Qu.back hs h⟩
theorem q_add (hs:St W w (Qu qb lbs ls::L))(h:i<ls.length)(hl:(ls.getD i []).length<1000):Calls Tryz.prog 314 #[.pointer (some ⟨lbs.getD i 0,0,none⟩),.int .u8 (x.toNat:Nat)] w λe w'=>e=.returned (.int .i64 0)∧St W w' (Qu qb lbs (ls.set i (ls.getD i []++[x]))::L) :=
 (line_add (Qu.out hs h) (by omega)).mono λ_ _ ⟨he,hs⟩=>by
   rw[if_pos hl]at he hs
   exact⟨he,Qu.in hs h⟩
theorem q_put {fr:Nat}{bs:List UInt8}(hs:St W w (Qu qb lbs ls::L))(h:i<ls.length)(hl:(ls.getD i []).length≤1000)(hb:bs.length≤65536)(hp:∀ w',St W w' L→RdB w' ad bs.length bs) :
   Calls Tryz.prog 318 #[.pointer (some ⟨lbs.getD i 0,0,none⟩),.int .i64 fr,.slice ad bs.length c] w λe w'=>∃ n er:Int,e=.returned (.tuple #[.int .i64 n,.int .i64 er])∧St W w' (Qu qb lbs (ls.set i (putLn (ls.getD i []) fr bs))::L) :=
 (line_put (Qu.out hs h) hl hb (λw' hw=>hp w' hw.tail)).mono λ_ _ ⟨n,er,he,hs⟩=>⟨n,er,he,Qu.in hs h⟩
theorem q_from {fr k:Nat}(hs:St W w (Qu qb lbs ls::L))(h:i<ls.length)(hl:(ls.getD i []).length≤1000)(hf:fr≤1000)(hk:1≤k∧k≤1000) :
   Calls Tryz.prog 309 #[.pointer (some ⟨lbs.getD i 0,0,none⟩),.int .i64 fr,.int .i64 k] w λe w'=>∃ ad' c',e=.returned (.slice ad' (((ls.getD i []).drop fr).take k).length c')∧St W w' (Sl 5 1 ad' (((ls.getD i []).drop fr).take k).length c' (bc (((ls.getD i []).drop fr).take k))::Qu qb lbs ls::L) :=
 (line_from (Qu.out hs h) hl hf hk).mono λ_ _ ⟨ad',c',he,hs⟩=>⟨ad',c',he,(Qu.back (L:=Sl 5 1 ad' _ c' _::L) hs.sub h).perm (List.Perm.swap _ _ _)⟩
theorem q_all (hs:St W w (Qu qb lbs ls::L))(h:i<ls.length)(hl:(ls.getD i []).length≤1000) :
   Calls Tryz.prog 293 #[.pointer (some ⟨lbs.getD i 0,0,none⟩)] w λe w'=>∃ ad' c',e=.returned (.slice ad' (ls.getD i []).length c')∧St W w' (Sl 5 1 ad' (ls.getD i []).length c' (bc (ls.getD i []))::Qu qb lbs ls::L) :=
 (line_all (Qu.out hs h) hl).mono λ_ _ ⟨ad',c',he,hs⟩=>⟨ad',c',he,(Qu.back (L:=Sl 5 1 ad' _ c' _::L) hs.sub h).perm (List.Perm.swap _ _ _)⟩
theorem queue_n (hs:St W w (Qu qb lbs ls::L)):Calls Tryz.prog 171 #[pt qb] w λe w'=>e=.returned (.int .i64 ls.length)∧St W w' (Qu qb lbs ls::L):=by
 obtain⟨ad,c,hl,hs⟩:=Qu.open hs
 refine EN Tryz.func171 Tryz.ntmps171 rfl rfl λa ha=>?_
 refine RN 6 ha hs λa ha=>?_
 replace ha:=ha.isF 4
 refine RT 8 ha hs ?_
 exact⟨rfl,Qu.close hs hl⟩
theorem zp_at {lbs:List Nat}{ls:List (List UInt8)}(hl:lbs.length=ls.length){i:Nat}(h:i<ls.length):((lbs.zip ls).map lpt)[i]?=some (.pointer (some ⟨lbs.getD i 0,0,none⟩)):=by
 rw[List.getElem?_map,zip_at hl h];rfl
theorem queue_line (hs:St W w (Qu qb lbs ls::L))(h:i<ls.length):Calls Tryz.prog 291 #[pt qb,.int .i64 i] w λe w'=>e=.returned (.pointer (some ⟨lbs.getD i 0,0,none⟩))∧St W w' (Qu qb lbs ls::L):=by
 refine EN Tryz.func291 Tryz.ntmps291 rfl rfl λa ha=>?_
 refine RN 7 ha hs λa ha=>?_
 rw[decide_eq_false (by omega)]at ha
 refine CL 2 ha hs (queue_n hs) λa w ha hs=>?_
 refine RN 2 ha hs λa ha=>?_
 rw[decide_eq_false (by omega)]at ha
 refine RN 2 ha hs λa ha=>?_
 obtain⟨ad,c,hl,hs⟩:=Qu.open hs
 obtain⟨b,o,rfl,hr⟩:=hs.slRd ad (by omega)
 refine RN 6 ha hs λa ha=>?_
 refine SS ha (ld1 ha (hr i _ (zp_at hl h))) λa ha=>?_
 refine RT 1 ha hs ?_
 exact⟨rfl,Qu.close hs hl⟩
theorem queue_front (hs:St W w (Qu qb lbs ls::L))(h0:ls≠[])(hl8:ls.length≤8):Calls Tryz.prog 135 #[pt qb] w λe w'=>e=.returned (.int .i64 (frontL ls))∧St W w' (Qu qb lbs ls::L):=by
 have hpos:0<ls.length:=List.length_pos_iff.2 h0
 refine EN Tryz.func135 Tryz.ntmps135 rfl rfl λa ha=>?_
 refine CL 5 ha hs (queue_n hs) λa w ha hs=>?_
 refine RN 1 ha hs λa ha=>?_
 rw[decide_eq_false (by omega)]at ha
 refine RN 2 ha hs λa ha=>?_
 obtain⟨ad,c,hl,hs⟩:=Qu.open hs
 obtain⟨b,o,rfl,hr⟩:=hs.slRd ad (by omega)
 refine RN 5 ha hs λa ha=>?_
 refine SS ha (ld1 ha (hr 0 _ (zp_at hl hpos))) λa ha=>?_
 replace hs:St W w (Qu qb lbs ls::L):=Qu.close hs hl
 refine CL 0 ha hs (q_len hs hpos) λa w ha hs=>?_
 refine RN 3 ha hs λa ha=>?_
 obtain⟨ad,c,hl,hs⟩:=Qu.open hs
 rw[show ((ls.getD 0 []).length:Int)=(frontN ls 0:Nat) from by rw[frontN,List.headD_eq_getD]]at ha
 refine RN 6 ha hs λa ha=>?_
 replace hs:St W w (blk qb 288 [.slice ad ls.length c]::Sl 289 1 ad ls.length c ((lbs.zip ls).map lpt)::All Ln (lbs.zip ls)::L):=hs
 refine wp_loop_ghost (λμ a w=>∃ (i:Nat),(μ=ls.length-i∧i≤ls.length)∧Fr a 31 [(3,.int .i64 (frontN ls i:Nat)),(19,.slice ad ls.length c),(20,.int .i64 ls.length),(21,.int .i64 i)]∧St W w (blk qb 288 [.slice ad ls.length c]::Sl 289 1 ad ls.length c ((lbs.zip ls).map lpt)::All Ln (lbs.zip ls)::L)) (ls.length) (⟨0,⟨rfl,by omega⟩,ha.keep [3,19,20,21],hs⟩) ?_
 clear ha hs
 rintro μ a w ⟨i,⟨rfl,hi⟩,ha,hs⟩
 refine IF 3 ha hs (λhc1 a ha=>?_) λhc1 a ha=>?_
 ·
  obtain⟨b2,o2,rfl,hr2⟩:=hs.slRd ad (by omega)
  have hil:i<ls.length:=by omega
  have hz:=zip_at hl hil
  obtain⟨hzi,hze⟩:=List.getElem?_eq_some_iff.1 hz
  refine RN 3 ha hs λa ha=>?_
  refine SS ha (ld1 ha (hr2 i _ (zp_at hl hil))) λa ha=>?_
  refine RN 1 ha hs λa ha=>?_
  replace hs:=(hs.pick (All Ln (lbs.zip ls))).allOut hzi
  rw[hze]at hs
  refine CL 2 ha hs (line_len hs) λa w ha hs=>?_
  replace hs:=(hze ▸ hs:St W w (Ln (lbs.zip ls)[i]::_)).allPut hzi
  rw[List.set_getElem_self]at hs
  refine RN 1 ha hs λa ha=>?_
  rw[show min ((frontN ls i:Nat):Int) ((ls.getD i []).length:Int)=((frontN ls (i+1):Nat):Int) from by rw[frontN];omega]at ha
  refine RN 3 ha hs λa ha=>?_
  exact⟨ls.length-(i+1),by omega,i+1,⟨rfl,by omega⟩,ha.keep [3,19,20,21],hs.sub⟩
 obtain rfl:i=ls.length:=by omega
 refine RT 3 ha hs ?_
 exact⟨rfl,Qu.close hs hl⟩
theorem queue_joint (hs:St W w (Qu qb lbs ls::L))(h0:ls≠[])(hf:f<frontL ls)(hl8:ls.length≤8):Calls Tryz.prog 136 #[pt qb,.int .i64 f] w λe w'=>∃ ad' c',e=.returned (.tuple #[.slice ad' (jointL ls f).length c',.bool true]) ∧
   St W w' (Sl 5 1 ad' (jointL ls f).length c' (bc (jointL ls f))::Qu qb lbs ls::L):=by
 refine EN Tryz.func136 Tryz.ntmps136 rfl rfl λa ha=>?_
 refine RN 8 ha hs λa ha=>?_
 rw[decide_eq_false (by omega)]at ha
 refine CL 2 ha hs (queue_front hs h0 hl8) λa w ha hs=>?_
 refine RN 2 ha hs λa ha=>?_
 rw[decide_eq_false (by omega)]at ha
 refine RN 5 ha hs λa ha=>?_
 obtain⟨ad,c,hl,hs⟩:=Qu.open hs
 refine RN 6 ha hs λa ha=>?_
 refine wp_loop_ghost (λμ a w=>∃ (i:Nat) (ad2:Option Addr) (c2:Nat),(μ=ls.length-i∧i≤ls.length)∧Fr a 40 [(1,.int .i64 f),(6,.slice ad2 (jointN ls f i).length c2),(22,.slice ad ls.length c),(23,.int .i64 ls.length),(24,.int .i64 i)]∧St W w (Sl 5 1 ad2 (jointN ls f i).length c2 (bc (jointN ls f i))::blk qb 288 [.slice ad ls.length c]::Sl 289 1 ad ls.length c ((lbs.zip ls).map lpt)::All Ln (lbs.zip ls)::L)) (ls.length) (⟨0,none,0,⟨rfl,by omega⟩,ha.keep [1,6,22,23,24],hs.sl0 5 1 none⟩) ?_
 clear ha hs
 rintro μ a w ⟨i,ad2,c2,⟨rfl,hi⟩,ha,hs⟩
 refine IF 3 ha hs (λhc1 a ha=>?_) λhc1 a ha=>?_
 ·
  obtain⟨b2,o2,rfl,hr2⟩:=hs.slRd ad (by omega)
  have hil:i<ls.length:=by omega
  have hz:=zip_at hl hil
  obtain⟨hzi,hze⟩:=List.getElem?_eq_some_iff.1 hz
  have hjl:=jointN_len (ls:=ls) (f:=f) (i:=i) hi
  refine RN 3 ha hs λa ha=>?_
  refine SS ha (ld1 ha (hr2 i _ (zp_at hl hil))) λa ha=>?_
  refine RN 2 ha hs λa ha=>?_
  replace hs:=(hs.pick (All Ln (lbs.zip ls))).allOut hzi
  rw[hze]at hs
  refine CL 2 ha hs (line_at hs) λa w ha hs=>?_
  replace hs:=(hze ▸ hs:St W w (Ln (lbs.zip ls)[i]::_)).allPut hzi
  rw[List.set_getElem_self]at hs
  refine RN 7 ha hs λa ha=>?_
  refine st_buildSlice ha rfl hs Tryz.underlying22 Ty.t5 rfl rfl rfl rfl (by decide) (by decide) λb36 a w ha hs ho=>?_
  clear ho
  refine RN 0 ha hs λa ha=>?_
  refine st_append ha rfl hs Tryz.underlying22 Ty.t5 rfl rfl hs.rdAll rfl (bc_one [(ls.getD i []).getD f 0]) (by decide) (by decide) (by omega) λad37 c37 a w ha hs=>?_
  rw[show bc (jointN ls f i)++_=bc (jointN ls f (i+1)) from by rw[jointN_succ hil,bc_app,List.getD_eq_getElem?_getD (l:=ls),List.getElem?_eq_getElem hil];rfl,show (jointN ls f i).length+1=(jointN ls f (i+1)).length from by rw[jointN_len hi,jointN_len (by omega)]]at hs
  rw[show (jointN ls f i).length+1=(jointN ls f (i+1)).length from by rw[jointN_len hi,jointN_len (by omega)]]at ha
  refine RN 3 ha hs λa ha=>?_
  exact⟨ls.length-(i+1),by omega,i+1,_,_,⟨rfl,by omega⟩,ha.keep [1,6,22,23,24],hs.sub⟩
 obtain rfl:i=ls.length:=by omega
 rw[jointN_all]at ha hs
 refine RT 4 ha hs ?_
 exact⟨_,_,rfl,(Qu.mk' (L':=Sl 5 1 ad2 (jointL ls f).length c2 (bc (jointL ls f))::L) hs ad c hl).perm (List.Perm.swap _ _ _)⟩
theorem queue_new {d:Nat}(hs:St W w L)(hn:2≤n∧n≤8)(hd:d≤8):Calls Tryz.prog 131 #[.int .i64 n,.int .i64 d] w λe w'=>∃ qb lbs,e=.returned (pt qb)∧St W w' (Qu qb lbs (List.replicate n (List.replicate d 0))::L):=by
 refine EN Tryz.func131 Tryz.ntmps131 rfl rfl λa ha=>?_
 refine BX 4 ha hs λb7 a w ha hs=>?_
 refine RN 6 ha hs λa ha=>?_
 rw[show min (max (n:Int) 2) 8=(n:Int) from by omega]at ha
 refine RN 1 ha hs λa ha=>?_
 replace hs:=hs.sl0 289 1 none
 replace hs:=St.allNil (f:=Ln) hs
 refine wp_loop_ghost (λμ a w=>∃ (i:Nat) (xs:List Lx) (ad:Option Addr) (c:Nat),(μ=n-i∧i≤n∧xs.map (·.2)=List.replicate i (List.replicate d 0))∧Fr a 26 [(1,.int .i64 d),(5,pt b7),(10,.int .i64 n),(11,.int .i64 i)]∧St W w (blk b7 288 [.slice ad i c]::Sl 289 1 ad i c (xs.map lpt)::All Ln xs::L)) (n) (⟨0,[],none,0,⟨rfl,by omega,rfl⟩,ha.keep [1,5,10,11],(hs.sub:St W w (blk b7 288 [.slice none 0 0]::Sl 289 1 none 0 0 []::All Ln []::L))⟩) ?_
 clear ha hs
 rintro μ a w ⟨i,xs,ad,c,⟨rfl,hi,hxs⟩,ha,hs⟩
 refine IF 3 ha hs (λhc0 a ha=>?_) λhc0 a ha=>?_
 ·
  refine DWC 1 (λw0 w'=>Rd w' b7 0 [.slice ad i c]) [6,7] [0,1,2,3,5,3004,1006,1007,1008,9,10,1011] ha hs λa w ha hs hH=>?_
  have hC:=hH.at w hs.rdAll
  refine RH 5 ha hs hH hC λa ha=>?_
  refine QH ha (λw hc=>ld1 ha (hc 0 _ rfl)) hC λa ha=>?_
  refine RH 0 ha hs hH hC λa ha=>?_
  refine CL1 0 ha hs (line_new hs hd) λlb a w ha hs=>?_
  replace hC:=hH.at w hs.rdAll
  refine RH 0 ha hs hH hC λa ha=>?_
  refine st_buildSlice ha rfl hs Tryz.underlying286 Ty.t289 rfl rfl rfl rfl (by decide) (by decide) λb20 a w ha hs ho=>?_
  clear ho
  replace hC:=hH.at w hs.rdAll
  refine RH 0 ha hs hH hC λa ha=>?_
  refine st_append ha rfl hs Tryz.underlying286 Ty.t289 rfl rfl hs.rdAll rfl (by simp[Value.oneCell']) (by decide) (by decide) (by omega) λad21 c21 a w ha hs=>?_
  rw[show List.map lpt xs++_=List.map lpt (xs++[(lb,List.replicate d 0)]) from by rw[List.map_append];rfl]at hs
  refine ST 2 ha hs (λa w ha hs=>?_)
  refine RN 2 ha hs λa ha=>?_
  have hs2:=St.allPush (x:=(lb,List.replicate d 0)) (hs.sub (M:=Ln (lb,List.replicate d 0)::All Ln xs::blk b7 288 [.slice ad21 (i+1) c21]::Sl 289 1 ad21 (i+1) c21 ((xs++[(lb,List.replicate d 0)]).map lpt)::L))
  exact⟨n-(i+1),by omega,i+1,xs++[(lb,List.replicate d 0)],ad21,c21,⟨rfl,by omega,by rw[List.map_append,hxs,List.replicate_succ'];rfl⟩,ha.keep [1,5,10,11],hs2.sub⟩
 obtain rfl:i=n:=by omega
 refine RT 3 ha hs ?_
 have hxl:xs.length=i:=by rw[← List.length_map (f:=(·.2)),hxs,List.length_replicate]
 have hz:(xs.map (·.1)).zip (List.replicate i (List.replicate d 0))=xs:=by
   rw[← hxs]
   clear hxs hs ha hxl
   induction xs with
   | nil=>rfl
   | cons x xs ih=>rw[List.map_cons,List.map_cons,List.zip_cons_cons,ih]
 have hll:(List.replicate i (List.replicate d (0:UInt8))).length=i:=List.length_replicate
 refine⟨b7,xs.map (·.1),rfl,?_⟩
 refine Qu.close (ad:=ad) (c:=c) ?_ (by rw[List.length_map,hxl,hll])
 rw[hll,hz];exact hs
end
end
end Go.Proofs.YteoldcfapaiobaaGreat
