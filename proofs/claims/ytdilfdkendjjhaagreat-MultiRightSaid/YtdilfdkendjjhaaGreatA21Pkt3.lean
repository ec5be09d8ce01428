/- Packets out of bytes: packet.Decode. -/
import Derived.Test.YtdilfdkendjjhaaGreatA20Pkt
namespace Go.Proofs.YtdilfdkendjjhaaGreat
open Go.RowKit
set_option linter.unusedVariables false
set_option linter.unusedSimpArgs false
set_option maxRecDepth 10000
set_option synthInstance.maxSize 4000
set_option synthInstance.maxHeartbeats 400000
section
def i64P (x:Int):Prop := -9223372036854775808≤x∧x≤9223372036854775807
def fourB (l:List UInt8):Nat:=l.foldl (λn b=>n*256+b.toNat) 0
theorem fourB_lt:∀ (l:List UInt8) (a:Nat),l.foldl (λn b=>n*256+b.toNat) a<(a+1)*256 ^ l.length
 | [],a=>by simp
 | b::l,a=>by
   have h1:=fourB_lt l (a*256+b.toNat)
   have h2:=u8_lt b
   rw[List.foldl_cons,List.length_cons]
   refine Nat.lt_of_lt_of_le h1 ?_
   rw[Nat.pow_succ,Nat.mul_comm (256 ^ l.length) 256,← Nat.mul_assoc]
   exact Nat.mul_le_mul_right _ (by omega)
theorem fourB_four {x:Nat}(h:x<4294967296):fourB (fourL x)=x:=by
 have:=fourL_back h
 simpa [fourB,fourL,fourN] using this
theorem fourB_take {l:List UInt8}{i:Nat}(h:i<l.length):fourB (l.take (i+1))=fourB (l.take i)*256+l[i].toNat:=by
 rw[fourB,List.take_succ_eq_append_getElem h,List.foldl_append];rfl
theorem fourB_bd (l:List UInt8)(n:Nat)(h:l.length≤n):fourB l<256 ^ n:=by
 have:=fourB_lt l 0
 rw[Nat.zero_add,Nat.one_mul]at this
 exact Nat.lt_of_lt_of_le this (Nat.pow_le_pow_right (by decide) h)
theorem shl8 {n:Nat}(h:n<16777216)(b:UInt8):IntKind.u32.wrap (((BitVec.ofInt IntKind.u32.bits (IntKind.u32.wrap ((n:Int)*2 ^ 8)) ||| BitVec.ofInt IntKind.u32.bits (b.toNat:Int)).toNat:Nat):Int)=((n*256+b.toNat:Nat):Int):=by
 have hb:=u8_lt b
 rw[show IntKind.u32.wrap ((n:Int)*2 ^ 8)=((n*256:Nat):Int) from by rw[wrap_u32];omega,bv32,bv32]
 show IntKind.u32.wrap (((BitVec.ofNat 32 (n*256) ||| BitVec.ofNat 32 b.toNat).toNat:Nat):Int)=_
 rw[BitVec.toNat_or,BitVec.toNat_ofNat,BitVec.toNat_ofNat,Nat.mod_eq_of_lt (show n*256<2 ^ 32 by omega),Nat.mod_eq_of_lt (show b.toNat<2 ^ 32 by omega),wrap_u32]
 have h1:=Nat.two_pow_add_eq_or_of_lt (i:=8) (b:=b.toNat) hb n
 rw[show n*256=2 ^ 8*n from by omega,← h1]
 omega
structure Rdr (W:World)(L:List SP)(ad:Option Addr)(c:Nat)(rest:List UInt8):Prop where
 len:rest.length≤65536
 cap:rest.length≤c
 rd:∀ w',St W w' L→RdB w' ad rest.length rest
section
variable {W w:World}{L L':List SP}{n c m rb:Nat}{ad:Option Addr}{bs rest:List UInt8}{p:Pk}{bad:Bool}
theorem Rdr.cut {k:Nat}(h:Rdr W L ad c rest)(hk:k≤rest.length):Rdr W L (cutAd ad k c 1) (c-k) (rest.drop k) :=
 ⟨by rw[List.length_drop];have:=h.len;omega,by rw[List.length_drop];have:=h.cap;omega,λw' hw=>(h.rd w' hw).cutL hk h.cap⟩
theorem rd_num (hs:St W w (blk rb 334 [.slice ad rest.length c,.bool bad]::L'))(hup:∀ w',St W w' L'→St W w' L)(hr:Rdr W L ad c rest) :
   Calls Tryz.prog 241 #[pt rb] w λe w'=>∃ (x:Int) (ad':Option Addr) (c':Nat) (rest':List UInt8) (bad':Bool),e=.returned (.int .i64 x)∧i64P x∧Rdr W L ad' c' rest' ∧
     (∀ (n:Int) (r:List UInt8),i64P n→rest=putL (zz n)++r→bad=false→x=n∧rest'=r∧bad'=false)∧St W w' (blk rb 334 [.slice ad' rest'.length c',.bool bad']::L'):=by
 have hlen:=hr.len
 refine EN Tryz.func241 Tryz.ntmps241 rfl rfl λa ha=>?_
 refine CL3 7 ha hs (num_get (bs:=rest) hs (by omega) (λw' hw=>hr.rd w' (hup _ hw.tail))) λx k er a w ha ⟨hg,hs⟩=>?_
 refine RN 7 ha hs λa ha=>?_
 have hgk:=hg.2.2.1
 have hge:=hg.2.1
 have hkl:k≤rest.length:=by
   by_cases h0:er=0
   · have:=hgk h0;omega
   · have:=(hg.2.2.2.1 h0).1;omega
 refine wp_seq_cut (M:=λa w=>∃ (z:Bool) (ad':Option Addr) (c':Nat) (rest':List UInt8),(er=0→bad=false→z=false)∧Rdr W L ad' c' rest'∧(z=false→rest'=rest.drop k)∧Fr a 41 [(3,.int .i64 x)]∧St W w (blk rb 334 [.slice ad' rest'.length c',.bool z]::L')) ?_ ?_
 ·
  refine wp_seq_cut (M:=λa w=>∃ z:Bool,(bad=true→z=true)∧(er=0→bad=false→z=false)∧Fr a 41 [(0,pt rb),(3,.int .i64 x),(4,.int .i64 k)]∧St W w (blk rb 334 [.slice ad rest.length c,.bool z]::L')) ?_ ?_
  ·
   refine BY 6 ha hs (λhg5 a ha=>?_) λhg5 a ha=>?_
   ·
    refine ST 5 ha hs (λa w ha hs=>?_)
    refine RN 0 ha hs λa ha=>?_
    exact⟨_,λ_=>rfl,λ_ h=>(by rw[h]at hg5;cases hg5),ha.keep [0,3,4],hs⟩
   refine ST 5 ha hs (λa w ha hs=>?_)
   refine RN 0 ha hs λa ha=>?_
   exact⟨_,λh=>(by rw[h]at hg5;cases hg5),λh _=>decide_eq_false (by omega),ha.keep [0,3,4],hs⟩
  clear ha;(try clear hs)
  rintro a w ⟨z,hz1,hz0,ha,hs⟩
  refine IF 6 ha hs (λhc0 a ha=>?_) λhc0 a ha=>?_
  ·
   have hz:z=false:=hc0
   refine RN 7 ha hs λa ha=>?_
   rw[show rest.length-k=(rest.drop k).length from by simp]at ha
   refine ST 2 ha hs (λa w ha hs=>?_)
   refine RN 0 ha hs λa ha=>?_
   exact⟨_,_,_,_,hz0,hr.cut hkl,λ_=>rfl,ha.keep [3],hs⟩
  refine RN 0 ha hs λa ha=>?_
  exact⟨_,_,_,_,hz0,hr,λh=>(by rw[h]at hc0;cases hc0),ha.keep [3],hs⟩
 clear ha;(try clear hs)
 rintro a w ⟨z,ad',c',rest',hz0,hr',hd',ha,hs⟩
 refine RT 3 ha hs ?_
 refine⟨x,ad',c',rest',z,rfl,hg.1,hr',λn r hn e hb=>?_,hs⟩
 obtain⟨rfl,rfl,rfl⟩:=hg.2.2.2.2 n r hn.1 hn.2 e
 have hz:=hz0 rfl hb
 refine⟨rfl,?_,hz⟩
 rw[hd' hz,e,List.drop_left]
theorem rd_four (hs:St W w (blk rb 334 [.slice ad rest.length c,.bool bad]::L'))(hup:∀ w',St W w' L'→St W w' L)(hr:Rdr W L ad c rest) :
   Calls Tryz.prog 242 #[pt rb] w λe w'=>∃ (x:Nat) (ad':Option Addr) (c':Nat) (rest':List UInt8) (bad':Bool),e=.returned (.int .u32 x)∧x<4294967296∧Rdr W L ad' c' rest' ∧
     (∀ (n:Nat) (r:List UInt8),n<4294967296→rest=fourL n++r→bad=false→x=n∧rest'=r∧bad'=false)∧St W w' (blk rb 334 [.slice ad' rest'.length c',.bool bad']::L'):=by
 have hlen:=hr.len
 have hcap:=hr.cap
 refine EN Tryz.func242 Tryz.ntmps242 rfl rfl λa ha=>?_
 refine RN 3 ha hs λa ha=>?_
 refine wp_seq_cut (M:=λa w=>∃ z:Bool,(z=true↔(bad=true∨rest.length<4))∧Fr a 50 [(0,pt rb)]∧St W w (blk rb 334 [.slice ad rest.length c,.bool z]::L')) ?_ ?_
 ·
  refine BY 6 ha hs (λhg5 a ha=>?_) λhg5 a ha=>?_
  ·
   refine ST 9 ha hs (λa w ha hs=>?_)
   refine RN 0 ha hs λa ha=>?_
   exact⟨_,⟨λ_=>.inl hg5,λ_=>rfl⟩,ha.keep [0],hs⟩
  refine ST 9 ha hs (λa w ha hs=>?_)
  refine RN 0 ha hs λa ha=>?_
  exact⟨_,(by rw[decide_eq_true_iff,hg5];simp;omega),ha.keep [0],hs⟩
 clear ha;(try clear hs)
 rintro a w ⟨z,hz,ha,hs⟩
 refine IF 5 ha hs (λhc0 a ha=>?_) λhc0 a ha=>?_
 ·
  have hzt:=hz.1 hc0
  refine RT 2 ha hs ?_
  refine⟨0,ad,c,rest,true,rfl,by decide,hr,λn r hn e hb=>?_,by rw[hc0]at hs;exact hs⟩
  rcases hzt with h | h
  · rw[hb]at h;cases h
  · rw[e,List.length_append,fourL_len]at h;omega
 have hzf:¬ (bad=true∨rest.length<4):=λh=>by rw[hz.2 h]at hc0;cases hc0
 have h4:4≤rest.length:=Nat.le_of_not_lt λh=>hzf (.inr h)
 obtain⟨bb,oo,rfl,_⟩:=(hr.rd _ (hup _ hs.tail)).get (by omega)
 have htl:(rest.take 4).length=4:=by rw[List.length_take];omega
 refine RN 9 ha hs λa ha=>?_
 rw[cutAd_zero,Nat.sub_zero,Nat.sub_zero]at ha
 refine RN 2 ha hs λa ha=>?_
 refine wp_loop_ghost (λμ a w=>∃ (i:Nat),(μ=4-i∧i≤4)∧Fr a 50 [(0,pt rb),(3,.int .u32 (fourB (rest.take i))),(29,.slice (some ⟨bb,oo,none⟩) 4 c),(30,.int .i64 4),(31,.int .i64 i)]∧St W w (blk rb 334 [.slice (some ⟨bb,oo,none⟩) rest.length c,.bool z]::L')) (4) (⟨0,⟨rfl,by omega⟩,ha.keep [0,3,29,30,31],hs⟩) ?_
 clear ha hs
 rintro μ a w ⟨i,⟨rfl,hi⟩,ha,hs⟩
 refine IF 3 ha hs (λhc1 a ha=>?_) λhc1 a ha=>?_
 ·
  have hil:i<rest.length:=by omega
  have hbd:=fourB_bd (rest.take i) 3 (by rw[List.length_take];omega)
  rw[show (256:Nat) ^ 3=16777216 from by decide]at hbd
  have hb8:=u8_lt rest[i]
  refine RN 3 ha hs λa ha=>?_
  refine SS ha (ld1 ha (((hr.rd _ (hup _ hs.tail)).rd (by omega)) i _ (bc_at hil))) λa ha=>?_
  refine SX 4 ha hs (by rw[wrap_u32];omega) λa ha=>?_
  refine RN 1 ha hs λa ha=>?_
  rw[shl8 hbd,← fourB_take hil]at ha
  refine RN 3 ha hs λa ha=>?_
  exact⟨4-(i+1),by omega,i+1,⟨rfl,by omega⟩,ha.keep [0,3,29,30,31],hs⟩
 obtain rfl:i=4:=by omega
 refine RN 7 ha hs λa ha=>?_
 rw[show rest.length-4=(rest.drop 4).length from by simp]at ha
 refine ST 2 ha hs (λa w ha hs=>?_)
 refine RT 3 ha hs ?_
 have hbd:=fourB_bd (rest.take 4) 4 (by rw[List.length_take];omega)
 rw[show (256:Nat) ^ 4=4294967296 from by decide]at hbd
 refine⟨_,_,_,_,z,rfl,hbd,hr.cut h4,λn r hn e hb=>?_,hs⟩
 have ht:rest.take 4=fourL n:=by rw[e];rfl
 have hd:rest.drop 4=r:=by rw[e];rfl
 exact⟨by rw[ht,fourB_four hn],hd,hc0⟩
theorem bytes_equalS {a b:List UInt8}{ad2:Option Addr}{m n c2:Nat}(hs:St W w L)(ha':RdB w ad m a)(hb':RdB w ad2 n b) :
   Calls Tryz.prog 211 #[.slice ad m c,.slice ad2 n c2] w λe w'=>e=.returned (.bool (a==b))∧St W w' L :=
 (bytes_equal ha' hb').mono λe w' h=>⟨h.1,by rw[h.2];exact hs⟩
theorem decP_head {bs:List UInt8}{q:Pk}(h:decP bs q):(q.kind=((bs.getD 0 0).toNat:Int)∧q.from'=((bs.getD 1 0).toNat:Int)∧q.to=((bs.getD 2 0).toNat:Int))∧(bs.drop 3).take (bs.length-7)=midPk q:=by
 have h1:=encPk_head h.2.2
 obtain⟨f1,t1,n1,i1,k1⟩:=h.1
 refine⟨?_,encPk_mid h.2.2⟩
 simp only[List.getD_eq_getElem?_getD,h1.1,h1.2.1,h1.2.2,Option.getD_some,UInt8.toNat_ofNat']
 omega
theorem i64u8 (b:UInt8):IntKind.i64.wrap (b.toNat:Int)=(b.toNat:Int):=wrap_in (by omega) (by have:=u8_lt b;omega)
theorem decP_bad {bs:List UInt8}(h:¬ ∃ q,decP bs q):decO bs=none:=decO_none λq hq=>h ⟨q,hq⟩
def Dec (bs:List UInt8)(p:Pk)(adP:Option Addr)(cP:Nat)(ok:Bool):Prop:=(ok=true∧decO bs=some p)∨(ok=false∧decO bs=none∧p=pk0∧adP=none∧cP=0)
theorem packet_dec (hs:St W w L)(hb:bs.length≤65536)(hc:bs.length≤c)(hp:∀ w',St W w' L→RdB w' ad bs.length bs) :
   Calls Tryz.prog 204 #[.slice ad bs.length c] w λe w'=>∃ (p:Pk) (adP:Option Addr) (cP:Nat) (ok:Bool),e=.returned (.tuple #[.agg (pkC p adP cP).toArray,.int .i64 (if ok=true then 0 else 1)])∧Dec bs p adP cP ok∧St W w' (Sl 5 1 adP p.press.length cP (bc p.press)::L):=by
 refine EN Tryz.func204 Tryz.ntmps204 rfl rfl λa ha=>?_
 refine AL 1 ha hs λb2 a w ha hs=>?_
 refine IF 6 ha hs (λhc0 a ha=>?_) λhc0 a ha=>?_
 ·
  have hno:decO bs=none:=decO_none λq hq=>by
    have:=congrArg List.length hq.2.2
    rw[encPk_len]at this;omega
  refine SA 2 ha hs λa w ha hs=>?_
  refine RT 1 ha hs ?_
  exact⟨pk0,none,0,false,rfl,.inr ⟨rfl,hno,rfl,rfl,rfl⟩,hs.tail.sl0 _ _ _⟩
 obtain⟨bb,oo,rfl,_⟩:=(hp _ hs.tail).get (by omega)
 have h7:7≤bs.length:=by omega
 refine DWC 1 (λw0 w=>Rd w bb oo (bc bs)) [6,7,10,11,13] [0,1,4,5,8,9,3002,3,3006,3007,3010,3011,12,1013,1014] ha hs λa w ha hs hH=>?_
 have hC:Rd w bb oo (bc bs):=(hp _ hs.tail).rd (by omega)
 refine RH 6 ha hs hH hC λa ha=>?_
 refine QH ha (λw hc=>ld1 ha (hc 0 _ (bc_atD (by omega)))) hC λa ha=>?_
 refine QP ha (λw=>ex_convIIs ha Tryz.underlying5 Tryz.underlying3 (i64u8 _)) λa ha=>?_
 refine QH ha (λw hc=>ld1 ha (hc 1 _ (bc_atD (by omega)))) hC λa ha=>?_
 refine QH ha (λw hc=>ex_convIIs ha Tryz.underlying5 Tryz.underlying3 (i64u8 _)) hC λa ha=>?_
 refine QH ha (λw hc=>ld1 ha (hc 2 _ (bc_atD (by omega)))) hC λa ha=>?_
 refine QH ha (λw hc=>ex_convIIs ha Tryz.underlying5 Tryz.underlying3 (i64u8 _)) hC λa ha=>?_
 refine RH 1 ha hs hH hC λa ha=>?_
 refine st_alloc ha rfl hs Ty.t70 rfl λb4 a w ha hs ho=>?_
 clear ho
 replace hC:=hH.at w ((hp _ hs.tail.tail).rd (by omega))
 refine RH 0 ha hs hH hC λa ha=>?_
 refine SA 0 ha hs λa w ha hs=>?_
 refine RN 5 ha hs λa ha=>?_
 rw[show (bs.length:Int)-4=((bs.length-4:Nat):Int) from by omega]at ha
 refine RN 1 ha hs λa ha=>?_
 obtain⟨R1,hR1⟩:∃ R1,R1=(bs.drop 3).take (bs.length-7):=⟨_,rfl⟩
 have hl1:R1.length=bs.length-7:=by rw[hR1,List.length_take,List.length_drop];omega
 have hr1:Rdr W L (cutAd (some ⟨bb,oo,none⟩) 3 c 1) (c-3) R1:=⟨by omega,by omega,λw' hw=>by
   rw[hl1,hR1]
   exact ((hp w' hw).cutL (lo:=3) (by omega) hc).cutH (by rw[List.length_drop];omega)⟩
 have hq1:∀ q,decP bs q→(q.kind=((bs.getD 0 0).toNat:Int)∧q.from'=((bs.getD 1 0).toNat:Int)∧q.to=((bs.getD 2 0).toNat:Int))∧R1=midPk q:=λq h=>by
   rw[hR1];exact decP_head h
 rw[show bs.length-4-3=R1.length from by omega]at ha
 generalize cutAd (some ⟨bb,oo,none⟩) 3 c 1=ad1 at ha hr1
 generalize c-3=c1 at ha hr1
 generalize R1=R1 at ha hr1 hq1
 refine BX 1 ha hs λb33 a w ha hs=>?_
 refine CLX 3 ha hs (rd_num (L:=L) hs (λ_ h=>h.tail.tail) hr1) ?_
 clear ha hs
 rintro e w ⟨x1,ad2,c2,R2,z2,rfl,hx1,hr2,hq2,hs⟩
 refine⟨_,rfl,λa ha=>?_⟩
 refine ST 1 ha hs (λa w ha hs=>?_)
 refine RN 0 ha hs λa ha=>?_
 replace hq2:∀ q,decP bs q→(q.kind=((bs.getD 0 0).toNat:Int)∧q.from'=((bs.getD 1 0).toNat:Int)∧q.to=((bs.getD 2 0).toNat:Int)∧q.id=x1)∧R2=numsPk q∧z2=false:=λq h=>by
   obtain⟨h1,h2⟩:=hq1 q h
   obtain⟨e1,e2,e3⟩:=hq2 q.id (numsPk q) ⟨by have:=h.1.2.2.2.1;omega,by have:=h.1.2.2.2.1;omega⟩ (by rw[h2,midPk]) rfl
   exact⟨⟨h1.1,h1.2.1,h1.2.2,e1.symm⟩,e2,e3⟩
 refine wp_seq_cut (M:=λa w=>∃ (p:Pk) (adP:Option Addr) (cP:Nat) (ad':Option Addr) (c':Nat) (R':List UInt8) (z:Bool),p.sum<4294967296∧(∀ q,decP bs q→p=q∧z=false)∧Fr a 91 [(0,.slice (some ⟨bb,oo,none⟩) bs.length c),(2,pt b2),(4,pt b4),(5,pt b33)]∧St W w (blk b4 70 (pkC p adP cP)::Sl 5 1 adP p.press.length cP (bc p.press)::blk b33 334 [.slice ad' R'.length c',.bool z]::blk b2 70 (pkC pk0 none 0)::L)) ?_ ?_
 ·
  refine IF 4 ha hs (λhc1 a ha=>?_) λhc1 a ha=>?_
  ·
   have hn1:∀ q,decP bs q→numsPk q=putL (zz q.first)++(putL (zz q.ack)++(putL (zz q.frame)++tailPk q))∧(i64P q.first∧i64P q.ack∧i64P q.frame)∧q.press.length≤32:=λq h=>by
     have hk:=(hq2 q h).1.1
     rw[hc1]at hk
     rcases h.1.2.2.2.2 with k | k
     · obtain⟨_,k1,k2,k3,k4⟩:=k
       unfold frP at k1 k2 k3
       exact⟨by rw[numsPk,if_pos hk],⟨⟨by omega,by omega⟩,⟨by omega,by omega⟩,⟨by omega,by omega⟩⟩,k4⟩
     · omega
   refine CLX 2 ha hs (rd_num (L:=L) (hs.perm (List.Perm.swap _ _ _)) (λ_ h=>h.tail.tail) hr2) ?_
   clear ha hs
   rintro e w ⟨x2,ad3,c3,R3,z3,rfl,hx2,hr3,hq3,hs⟩
   refine⟨_,rfl,λa ha=>?_⟩
   replace hq3:∀ q,decP bs q→q.first=x2∧R3=putL (zz q.ack)++(putL (zz q.frame)++tailPk q)∧z3=false:=λq h=>by
     obtain⟨_,h2,h3⟩:=hq2 q h
     obtain⟨e1,e2,e3⟩:=hq3 q.first _ (hn1 q h).2.1.1 (by rw[h2,(hn1 q h).1]) h3
     exact⟨e1.symm,e2,e3⟩
   refine ST 1 ha hs (λa w ha hs=>?_)
   refine CLX 2 ha hs (rd_num (L:=L) (hs.perm (List.Perm.swap _ _ _)) (λ_ h=>h.tail.tail) hr3) ?_
   clear ha hs
   rintro e w ⟨x3,ad4,c4,R4,z4,rfl,hx3,hr4,hq4,hs⟩
   refine⟨_,rfl,λa ha=>?_⟩
   replace hq4:∀ q,decP bs q→q.ack=x3∧R4=putL (zz q.frame)++tailPk q∧z4=false:=λq h=>by
     obtain⟨_,h2,h3⟩:=hq3 q h
     obtain⟨e1,e2,e3⟩:=hq4 q.ack _ (hn1 q h).2.1.2.1 h2 h3
     exact⟨e1.symm,e2,e3⟩
   refine ST 1 ha hs (λa w ha hs=>?_)
   refine CLX 2 ha hs (rd_num (L:=L) (hs.perm (List.Perm.swap _ _ _)) (λ_ h=>h.tail.tail) hr4) ?_
   clear ha hs
   rintro e w ⟨x4,ad5,c5,R5,z5,rfl,hx4,hr5,hq5,hs⟩
   refine⟨_,rfl,λa ha=>?_⟩
   replace hq5:∀ q,decP bs q→q.frame=x4∧R5=fourL q.sum++(putL (zz (q.press.length:Int))++runsL q.press 0)∧z5=false:=λq h=>by
     obtain⟨_,h2,h3⟩:=hq4 q h
     obtain⟨e1,e2,e3⟩:=hq5 q.frame _ (hn1 q h).2.1.2.2 h2 h3
     exact⟨e1.symm,by rw[e2,tailPk],e3⟩
   refine ST 1 ha hs (λa w ha hs=>?_)
   refine CLX 2 ha hs (rd_four (L:=L) (hs.perm (List.Perm.swap _ _ _)) (λ_ h=>h.tail.tail) hr5) ?_
   clear ha hs
   rintro e w ⟨x5,ad6,c6,R6,z6,rfl,hx5,hr6,hq6,hs⟩
   refine⟨_,rfl,λa ha=>?_⟩
   replace hq6:∀ q,decP bs q→q.sum=x5∧R6=putL (zz (q.press.length:Int))++runsL q.press 0∧z6=false:=λq h=>by
     obtain⟨_,h2,h3⟩:=hq5 q h
     obtain⟨e1,e2,e3⟩:=hq6 q.sum _ h.2.1 h2 h3
     exact⟨e1.symm,e2,e3⟩
   refine ST 1 ha hs (λa w ha hs=>?_)
   refine CLX 2 ha hs (rd_num (L:=L) (hs.perm (List.Perm.swap _ _ _)) (λ_ h=>h.tail.tail) hr6) ?_
   clear ha hs
   rintro e w ⟨x6,ad7,c7,R7,z7,rfl,hx6,hr7,hq7,hs⟩
   refine⟨_,rfl,λa ha=>?_⟩
   replace hq7:∀ q,decP bs q→(q.press.length:Int)=x6∧R7=runsL q.press 0∧z7=false:=λq h=>by
     obtain⟨_,h2,h3⟩:=hq6 q h
     have hpl:=(hn1 q h).2.2
     obtain⟨e1,e2,e3⟩:=hq7 q.press.length _ ⟨by omega,by omega⟩ h2 h3
     exact⟨e1.symm,e2,e3⟩
   refine CLX 6 ha hs (runs_dec (m:=32) hs hr7.len hr7.cap (by omega) (λw' hw=>hr7.rd w' hw.tail.tail.tail)) ?_
   clear ha hs
   rintro e w ⟨out,adO,cO,er,rfl,hun,hs⟩
   refine⟨_,rfl,λa ha=>?_⟩
   refine BY 10 ha hs (λhg2 a ha=>?_) λhg2 a ha=>?_
   ·
    refine SA 8 ha hs λa w ha hs=>?_
    refine RT 1 ha hs ?_
    have hno:decO bs=none:=decP_bad λ⟨q,h⟩=>by
      obtain⟨_,e2,_⟩:=hq7 q h
      have:=(hun.2.2 q.press (hn1 q h).2.2 e2).2
      simp[this]at hg2
    exact⟨pk0,none,0,false,rfl,.inr ⟨rfl,hno,rfl,rfl,rfl⟩,hs.sub.sl0 _ _ _⟩
   refine IF 5 ha hs (λhc2 a ha=>?_) λhc2 a ha=>?_
   ·
    refine SA 2 ha hs λa w ha hs=>?_
    refine RT 1 ha hs ?_
    have hno:decO bs=none:=decP_bad λ⟨q,h⟩=>by
      obtain⟨e1,e2,_⟩:=hq7 q h
      have:=(hun.2.2 q.press (hn1 q h).2.2 e2).1
      rw[this]at hc2
      omega
    exact⟨pk0,none,0,false,rfl,.inr ⟨rfl,hno,rfl,rfl,rfl⟩,hs.sub.sl0 _ _ _⟩
   refine ST 2 ha hs (λa w ha hs=>?_)
   refine RN 0 ha hs λa ha=>?_
   refine⟨⟨((bs.getD 0 0).toNat:Int),((bs.getD 1 0).toNat:Int),((bs.getD 2 0).toNat:Int),x1,x2,x3,x4,x5,out⟩,adO,cO,ad7,c7,R7,z7,by assumption,λq h=>?_,ha.keep [0,2,4,5],hs⟩
   obtain⟨h1,h2,h3,h4⟩:=(hq2 q h).1
   have h5:=(hq3 q h).1
   have h6:=(hq4 q h).1
   have h7:=(hq5 q h).1
   have h8:=(hq6 q h).1
   have h9:=hq7 q h
   have h10:=(hun.2.2 q.press (hn1 q h).2.2 h9.2.1).1
   refine⟨?_,h9.2.2⟩
   rw[← h1,← h2,← h3,← h4,← h5,← h6,← h7,← h8,h10]
  refine RN 0 ha hs λa ha=>?_
  refine⟨⟨((bs.getD 0 0).toNat:Int),((bs.getD 1 0).toNat:Int),((bs.getD 2 0).toNat:Int),x1,0,0,0,0,[]⟩,none,0,ad2,c2,R2,z2,by show 0<4294967296;decide,λq h=>?_,ha.keep [0,2,4,5],(hs.sl0 5 1 none).perm (List.Perm.swap _ _ _)⟩
  obtain⟨⟨h1,h2,h3,h4⟩,_,h5⟩:=hq2 q h
  rw[← h1]at hc1
  rcases h.1.2.2.2.2 with k | k
  · exact absurd k.1 hc1
  · obtain⟨k0,k1,k2,k3,k4,k5⟩:=k
    have k4:=List.eq_nil_of_length_eq_zero k4
    refine⟨?_,h5⟩
    rw[← h1,← h2,← h3,← h4]
    cases q
    simp_all
 clear ha;(try clear hs)
 rintro a w ⟨p,adP,cP,ad8,c8,R8,z8,hsum,hq8,ha,hs⟩
 refine CL2 3 ha hs (packet_enc (p:=p) hs hsum (λw' hw=>hw.rdB adP p.press rfl rfl)) λadE cE a w ha hs=>?_
 refine BY 7 ha hs (λhg4 a ha=>?_) λhg4 a ha=>?_
 ·
  refine SA 12 ha hs λa w ha hs=>?_
  refine RT 1 ha hs ?_
  have hno:decO bs=none:=decP_bad λ⟨q,h⟩=>by
    rw[(hq8 q h).2]at hg4;cases hg4
  exact⟨pk0,none,0,false,rfl,.inr ⟨rfl,hno,rfl,rfl,rfl⟩,hs.sub.sl0 _ _ _⟩
 refine BY 4 ha hs (λhg8 a ha=>?_) λhg8 a ha=>?_
 ·
  refine SA 8 ha hs λa w ha hs=>?_
  refine RT 1 ha hs ?_
  have hno:decO bs=none:=decP_bad λ⟨q,h⟩=>by
    have hn:=(hs.rdB adE (encO p) rfl rfl).2.1 (by cases adE with
      | none=>rfl
      | some _=>cases hg8)
    rw[(hq8 q h).1,encO,if_pos h.1,encPk_len]at hn;omega
  exact⟨pk0,none,0,false,rfl,.inr ⟨rfl,hno,rfl,rfl,rfl⟩,hs.sub.sl0 _ _ _⟩
 refine CL 2 ha hs (bytes_equalS hs (hs.rdB adE (encO p) rfl rfl) (hp _ hs.tail.tail.tail.tail.tail)) λa w ha hs=>?_
 refine IF 2 ha hs (λhc3 a ha=>?_) λhc3 a ha=>?_
 ·
  refine SA 2 ha hs λa w ha hs=>?_
  refine RT 1 ha hs ?_
  have hno:decO bs=none:=decP_bad λ⟨q,h⟩=>by
    have e:encO p=bs:=by rw[(hq8 q h).1,encO,if_pos h.1];exact h.2.2
    rw[e]at hc3;simp at hc3
  exact⟨pk0,none,0,false,rfl,.inr ⟨rfl,hno,rfl,rfl,rfl⟩,hs.sub.sl0 _ _ _⟩
 refine SA 2 ha hs λa w ha hs=>?_
 refine RT 1 ha hs ?_
 exact⟨p,adP,cP,true,rfl,.inl ⟨rfl,decO_some ((decP_iff (λe=>by rw[e]at h7;simp at h7) hsum).2 (by simpa using hc3))⟩,hs.sub⟩
end
end
section
def fldAt (q:Pk):Nat→Int
 | 0=>q.id
 | 1=>q.first
 | 2=>q.ack
 | _=>q.frame
def restAt (q:Pk):Nat→List UInt8
 | 0=>midPk q
 | 1=>numsPk q
 | 2=>putL (zz q.ack)++(putL (zz q.frame)++tailPk q)
 | 3=>putL (zz q.frame)++tailPk q
 | _=>tailPk q
theorem decP_kind {bs:List UInt8}{q:Pk}(h:decP bs q):(q.kind=1∧frP q.first∧frP q.ack∧frP q.frame∧q.press.length≤32∧numsPk q=putL (zz q.first)++(putL (zz q.ack)++(putL (zz q.frame)++tailPk q))) ∨
   (q.kind=2∧q.first=0∧q.ack=0∧q.frame=0∧q.press=[]∧q.sum=0):=by
 rcases h.1.2.2.2.2 with k | k
 · exact .inl ⟨k.1,k.2.1,k.2.2.1,k.2.2.2.1,k.2.2.2.2,by rw[numsPk,if_pos k.1]⟩
 · exact .inr ⟨k.1,k.2.1,k.2.2.1,k.2.2.2.1,List.eq_nil_of_length_eq_zero k.2.2.2.2.1,k.2.2.2.2.2⟩
theorem rest_step {bs:List UInt8}{q:Pk}{n i:Nat}(h:decP bs q)(hn:n=if (bs.getD 0 0).toNat=1 then 4 else 1)(hi:i<n) :
   restAt q i=putL (zz (fldAt q i))++restAt q (i+1)∧0≤fldAt q i∧fldAt q i≤1099511627776:=by
 have h0:=(decP_head h).1.1
 have hid:=h.1.2.2.2.1
 rcases decP_kind h with k | k
 · obtain⟨k0,k1,k2,k3,k4,k5⟩:=k
   unfold frP at k1 k2 k3
   rw[if_pos (by omega)]at hn
   rcases (by omega:i=0∨i=1∨i=2∨i=3) with rfl | rfl | rfl | rfl
   · exact⟨rfl,hid.1,hid.2⟩
   · exact⟨k5,by show 0≤q.first;omega,by show q.first≤_;omega⟩
   · exact⟨rfl,by show 0≤q.ack;omega,by show q.ack≤_;omega⟩
   · exact⟨rfl,by show 0≤q.frame;omega,by show q.frame≤_;omega⟩
 · rw[if_neg (by omega)]at hn
   obtain rfl:i=0:=by omega
   exact⟨rfl,hid.1,hid.2⟩
theorem rest_bad {bs X:List UInt8}{n i at' k:Nat}{x er:Int}(hn:n=if (bs.getD 0 0).toNat=1 then 4 else 1)(hi:i<n)(hq:∀ q,decP bs q→X.drop at'=restAt q i)(hg:GetR (X.drop at') x k er)
   (hb:er≠0∨x<0∨1099511627776<x):decO bs=none:=decP_bad λ⟨q,h⟩=>by
 obtain⟨h1,h2,h3⟩:=rest_step h hn hi
 obtain⟨e1,e2,e3⟩:=hg.2.2.2.2 (fldAt q i) (restAt q (i+1)) (by omega) (by omega) (by rw[hq q h,h1])
 omega
section
variable {W w:World}{L:List SP}{n c m:Nat}{ad:Option Addr}{bs:List UInt8}{p:Pk}
theorem refUnpacket_spec (hs:St W w L)(hb:bs.length≤65536)(hc:bs.length≤c)(hp:∀ w',St W w' L→RdB w' ad bs.length bs) :
   Calls Tryz.prog 155 #[.slice ad bs.length c] w λe w'=>∃ (p:Pk) (adP:Option Addr) (cP:Nat) (ok:Bool),e=.returned (.tuple #[.agg (pkC p adP cP).toArray,.bool ok])∧(ok=true→decO bs=some p)∧(ok=false→decO bs=none)∧St W w' (Sl 5 1 adP p.press.length cP (bc p.press)::L):=by
 have hpk0:∀ {w'},St W w' L→decO bs=none→∃ (p:Pk) (adP:Option Addr) (cP:Nat) (ok:Bool),Ending.returned (.tuple #[.agg (pkC pk0 none 0).toArray,.bool false])=.returned (.tuple #[.agg (pkC p adP cP).toArray,.bool ok])∧(ok=true→decO bs=some p)∧(ok=false→decO bs=none)∧St W w' (Sl 5 1 adP p.press.length cP (bc p.press)::L) :=
   λhs hno=>⟨pk0,none,0,false,rfl,λh=>(by cases h),λ_=>hno,hs.sl0 _ _ _⟩
 refine EN Tryz.func155 Tryz.ntmps155 rfl rfl λa ha=>?_
 refine AL 1 ha hs λb2 a w ha hs=>?_
 refine IF 6 ha hs (λhc0 a ha=>?_) λhc0 a ha=>?_
 ·
  have hno:decO bs=none:=decO_none λq hq=>by
    have:=congrArg List.length hq.2.2
    have hm:1≤(midPk q).length:=by rw[midPk,List.length_append];have:=putL_pos (zz q.id);omega
    rw[encPk_len]at this;omega
  refine SA 2 ha hs λa w ha hs=>?_
  refine RT 1 ha hs ?_
  exact hpk0 hs.tail hno
 obtain⟨bb,oo,rfl,_⟩:=(hp _ hs.tail).get (by omega)
 have h7:8≤bs.length:=by omega
 refine RN 5 ha hs λa ha=>?_
 rw[show (bs.length:Int)-4=((bs.length-4:Nat):Int) from by omega]at ha
 refine RN 1 ha hs λa ha=>?_
 obtain⟨X,hX⟩:∃ X,X=(bs.drop 3).take (bs.length-7):=⟨_,rfl⟩
 have hXl:X.length=bs.length-7:=by rw[hX,List.length_take,List.length_drop];omega
 have hr:Rdr W L (cutAd (some ⟨bb,oo,none⟩) 3 c 1) (c-3) X:=⟨by omega,by omega,λw' hw=>by
   rw[hXl,hX]
   exact ((hp w' hw).cutL (lo:=3) (by omega) hc).cutH (by rw[List.length_drop];omega)⟩
 have hq1:∀ q,decP bs q→(q.kind=((bs.getD 0 0).toNat:Int)∧q.from'=((bs.getD 1 0).toNat:Int)∧q.to=((bs.getD 2 0).toNat:Int))∧X=midPk q:=λq h=>by
   rw[hX];exact decP_head h
 rw[show bs.length-4-3=X.length from by omega]at ha
 have hXp:1≤X.length:=by omega
 obtain⟨bx,ox,hbx,_⟩:=(hr.rd _ hs.tail).get (by omega)
 rw[hbx]at ha hr
 generalize c-3=c1 at ha hr
 clear hX
 refine DWC 2 (λw0 w=>Rd w bb oo (bc bs)) [6,7,10,11,13] [0,1,4,5,8,9,3002,3,3006,3007,3010,3011,12,1013,1014] ha hs λa w ha hs hH=>?_
 have hC:Rd w bb oo (bc bs):=(hp _ hs.tail).rd (by omega)
 refine RH 6 ha hs hH hC λa ha=>?_
 refine QH ha (λw hc=>ld1 ha (hc 0 _ (bc_atD (by omega)))) hC λa ha=>?_
 refine QP ha (λw=>ex_convIIs ha Tryz.underlying5 Tryz.underlying3 (i64u8 _)) λa ha=>?_
 refine QH ha (λw hc=>ld1 ha (hc 1 _ (bc_atD (by omega)))) hC λa ha=>?_
 refine QH ha (λw hc=>ex_convIIs ha Tryz.underlying5 Tryz.underlying3 (i64u8 _)) hC λa ha=>?_
 refine QH ha (λw hc=>ld1 ha (hc 2 _ (bc_atD (by omega)))) hC λa ha=>?_
 refine QH ha (λw hc=>ex_convIIs ha Tryz.underlying5 Tryz.underlying3 (i64u8 _)) hC λa ha=>?_
 refine RH 1 ha hs hH hC λa ha=>?_
 refine st_alloc ha rfl hs Ty.t70 rfl λb5 a w ha hs ho=>?_
 clear ho
 replace hC:=hH.at w ((hp _ hs.tail.tail).rd (by omega))
 refine RH 0 ha hs hH hC λa ha=>?_
 refine SA 0 ha hs λa w ha hs=>?_
 refine AL 1 ha hs λb6 a w ha hs=>?_
 refine RN 4 ha hs λa ha=>?_
 refine wp_seq_cut (M:=λa w=>∃ n:Nat,n=(if (bs.getD 0 0).toNat=1 then 4 else 1)∧Fr a 153 [(0,.slice (some ⟨bb,oo,none⟩) bs.length c),(2,pt b2),(4,.slice (some ⟨bx,ox,none⟩) X.length c1),(5,pt b5),(6,pt b6),(7,.int .i64 (0:Nat)),(8,.int .i64 n)]∧St W w (blk b6 303 (ints .i64 4 (λ_=>0))::blk b5 70 (pkC ⟨((bs.getD 0 0).toNat:Int),((bs.getD 1 0).toNat:Int),((bs.getD 2 0).toNat:Int),0,0,0,0,0,[]⟩ none 0)::blk b2 70 (pkC pk0 none 0)::L)) ?_ ?_
 ·
  refine IF 4 ha hs (λhc1 a ha=>?_) λhc1 a ha=>?_
  ·
   refine RN 1 ha hs λa ha=>?_
   exact⟨4,by rw[if_pos (by omega)],ha.keep [0,2,4,5,6,7,8],hs⟩
  refine RN 0 ha hs λa ha=>?_
  exact⟨1,by rw[if_neg (by omega)],ha.keep [0,2,4,5,6,7,8],hs⟩
 clear ha;(try clear hs)
 rintro a w ⟨n,hn,ha,hs⟩
 refine RN 3 ha hs λa ha=>?_
 refine wp_loop_ghost (λμ a w=>∃ (i k:Nat) (g:Nat→Int),(μ=n-i∧i≤n∧k≤X.length∧(∀ j,i≤j→g j=0)∧∀ q,decP bs q→X.drop k=restAt q i∧∀ j,j<i→g j=fldAt q j)∧Fr a 153 [(0,.slice (some ⟨bb,oo,none⟩) bs.length c),(2,pt b2),(4,.slice (some ⟨bx,ox,none⟩) X.length c1),(5,pt b5),(6,pt b6),(7,.int .i64 k),(8,.int .i64 n),(9,.int .i64 i)]∧St W w (blk b6 303 (ints .i64 4 g)::blk b5 70 (pkC ⟨((bs.getD 0 0).toNat:Int),((bs.getD 1 0).toNat:Int),((bs.getD 2 0).toNat:Int),0,0,0,0,0,[]⟩ none 0)::blk b2 70 (pkC pk0 none 0)::L)) (n) (⟨0,0,λ_=>0,⟨rfl,by omega,by omega,λ_ _=>rfl,λq h=>⟨by rw[List.drop_zero];exact (hq1 q h).2,λj hj=>absurd hj (by omega)⟩⟩,ha.keep [0,2,4,5,6,7,8,9],hs⟩) ?_
 clear ha hs
 rintro μ a w ⟨i,k,g,⟨rfl,hi,hk,hg0,hqi⟩,ha,hs⟩
 refine IF 5 ha hs (λhc2 a ha=>?_) λhc2 a ha=>?_
 ·
  have hin:i<n:=by omega
  have hi4:i<4:=by rw[hn]at hin;split at hin <;> omega
  have hrk:=hr.cut hk
  have hlk:=hrk.len
  refine RN 5 ha hs λa ha=>?_
  rw[show X.length-k=(X.drop k).length from by simp]at ha
  refine CL3 0 ha hs (refGet_spec (bs:=X.drop k) hs (by omega) (λw' hw=>hrk.rd w' hw.tail.tail.tail)) λx m er a w ha ⟨hgt,hs⟩=>?_
  refine BY 12 ha hs (λhg2 a ha=>?_) λhg2 a ha=>?_
  ·
   refine SA 10 ha hs λa w ha hs=>?_
   refine RT 1 ha hs ?_
   have hno:=rest_bad hn hin (λq h=>(hqi q h).1) hgt (.inl (by simpa using hg2))
   exact hpk0 hs.tail.tail.tail hno
  refine BY 4 ha hs (λhg6 a ha=>?_) λhg6 a ha=>?_
  ·
   refine SA 6 ha hs λa w ha hs=>?_
   refine RT 1 ha hs ?_
   have hno:=rest_bad hn hin (λq h=>(hqi q h).1) hgt (.inr (.inl (by simpa using hg6)))
   exact hpk0 hs.tail.tail.tail hno
  refine IF 3 ha hs (λhc3 a ha=>?_) λhc3 a ha=>?_
  ·
   refine SA 2 ha hs λa w ha hs=>?_
   refine RT 1 ha hs ?_
   have hno:=rest_bad hn hin (λq h=>(hqi q h).1) hgt (.inr (.inr (by simpa using hc3)))
   exact hpk0 hs.tail.tail.tail hno
  refine ST 4 ha hs (λa w ha hs=>?_) (hlt:=(by rw[ints_len];omega))
  rw[ints_set,show (λj=>if j=i then x else g j)=upd g i x from rfl]at hs
  refine RN 0 ha hs λa ha=>?_
  have hmk:=(hgt.2.2.1 (by simpa using hg2)).2
  rw[List.length_drop]at hmk
  refine RN 7 ha hs λa ha=>?_
  refine⟨n-(i+1),by omega,i+1,k+m,upd g i x,⟨rfl,by omega,?_,?_,λq h=>?_⟩,ha.keep [0,2,4,5,6,7,8,9],hs⟩
  · have:=(hgt.2.2.1 (by simpa using hg2)).2
    rw[List.length_drop]at this;omega
  · intro j hj
    rw[upd,if_neg (by omega)];exact hg0 j (by omega)
  · obtain⟨h1,h2⟩:=hqi q h
    obtain⟨h3,h4,h5⟩:=rest_step h hn hin
    obtain⟨e1,e2,e3⟩:=hgt.2.2.2.2 (fldAt q i) (restAt q (i+1)) (by omega) (by omega) (by rw[h1,h3])
    refine⟨by rw[← List.drop_drop,h1,h3,e2,List.drop_left],λj hj=>?_⟩
    by_cases hji:j=i
    · subst hji;rw[upd,if_pos rfl,e1]
    · rw[upd,if_neg hji];exact h2 j (by omega)
 obtain rfl:i=n:=by omega
 rw[show pkC ⟨((bs.getD 0 0).toNat:Int),((bs.getD 1 0).toNat:Int),((bs.getD 2 0).toNat:Int),0,0,0,0,0,[]⟩ none 0=[.int .i64 ((bs.getD 0 0).toNat:Int),.int .i64 ((bs.getD 1 0).toNat:Int),.int .i64 ((bs.getD 2 0).toNat:Int),.int .i64 0,.int .i64 0,.slice none 0 0,.int .i64 0,.int .i64 0,.int .u32 (0:Nat)] from rfl]at hs
 refine DWC 1 (λw0 w'=>Rd w' b6 0 (ints .i64 4 g)) [3,5,7,9,10,11,12,13] [0,2,4,6,3001,8,3003,3005,3007,1009,1010,1011,1012,1013,14,1015] ha hs λa w ha hs hH=>?_
 have hC:=hH.at w hs.rdAll
 refine RH 4 ha hs hH hC λa ha=>?_
 refine QH ha (λw hc=>ld1 ha (hc 0 _ (ints_get g (by decide)))) hC λa ha=>?_
 refine RH 1 ha hs hH hC λa ha=>?_
 refine QH ha (λw hc=>ld1 ha (hc 1 _ (ints_get g (by decide)))) hC λa ha=>?_
 refine QH ha (λw hc=>ld1 ha (hc 2 _ (ints_get g (by decide)))) hC λa ha=>?_
 refine QH ha (λw hc=>ld1 ha (hc 3 _ (ints_get g (by decide)))) hC λa ha=>?_
 refine RH 0 ha hs hH hC λa ha=>?_
 refine ST 0 ha hs (λa w ha hs=>?_)
 replace hC:=hH.at w hs.rdAll
 refine RH 1 ha hs hH hC λa ha=>?_
 refine ST 0 ha hs (λa w ha hs=>?_)
 replace hC:=hH.at w hs.rdAll
 refine RH 1 ha hs hH hC λa ha=>?_
 refine ST 0 ha hs (λa w ha hs=>?_)
 replace hC:=hH.at w hs.rdAll
 refine RH 1 ha hs hH hC λa ha=>?_
 refine ST 0 ha hs (λa w ha hs=>?_)
 refine RN 0 ha hs λa ha=>?_
 refine wp_seq_cut (M:=λa w=>∃ (p:Pk) (adP:Option Addr) (cP:Nat),p.sum<4294967296∧(∀ q,decP bs q→p=q)∧Fr a 153 [(0,.slice (some ⟨bb,oo,none⟩) bs.length c),(2,pt b2),(5,pt b5)]∧St W w (blk b5 70 (pkC p adP cP)::Sl 5 1 adP p.press.length cP (bc p.press)::blk b2 70 (pkC pk0 none 0)::L)) ?_ ?_
 ·
  refine IF 4 ha hs (λhc4 a ha=>?_) λhc4 a ha=>?_
  ·
   have hk1:∀ q,decP bs q→X.drop k=tailPk q∧q.press.length≤32:=λq h=>by
     rw[if_pos (by omega)]at hn
     refine⟨by rw[(hqi q h).1,hn];rfl,?_⟩
     rcases decP_kind h with k | k
     · exact k.2.2.2.2.1
     · rw[k.2.2.2.2.1];simp
   refine IF 7 ha hs (λhc5 a ha=>?_) λhc5 a ha=>?_
   ·
    have hno:decO bs=none:=decP_bad λ⟨q,h⟩=>by
      have:=congrArg List.length (hk1 q h).1
      rw[tailPk,List.length_append,fourL_len,List.length_drop]at this
      omega
    refine SA 2 ha hs λa w ha hs=>?_
    refine RT 1 ha hs ?_
    exact hpk0 hs.tail.tail.tail hno
   have hk4:k+4≤X.length:=by omega
   refine RN 3 ha hs λa ha=>?_
   refine wp_loop_ghost (λμ a w=>∃ (j:Nat),(μ=4-j∧j≤4)∧Fr a 153 [(0,.slice (some ⟨bb,oo,none⟩) bs.length c),(2,pt b2),(4,.slice (some ⟨bx,ox,none⟩) X.length c1),(5,pt b5),(7,.int .i64 k),(13,.int .i64 j)]∧St W w (blk b5 70 [.int .i64 ((bs.getD 0 0).toNat:Int),.int .i64 ((bs.getD 1 0).toNat:Int),.int .i64 ((bs.getD 2 0).toNat:Int),.int .i64 (g 0),.int .i64 (g 1),.slice none 0 0,.int .i64 (g 2),.int .i64 (g 3),.int .u32 (fourB ((X.drop k).take j):Nat)]::blk b2 70 (pkC pk0 none 0)::L)) (4) (⟨0,⟨rfl,by omega⟩,ha.keep [0,2,4,5,7,13],(hs.perm (List.Perm.swap _ _ _)).tail⟩) ?_
   clear ha hs
   rintro μ a w ⟨j,⟨rfl,hj⟩,ha,hs⟩
   refine IF 4 ha hs (λhc6 a ha=>?_) λhc6 a ha=>?_
   ·
    have hj4:j<4:=by omega
    have hkj:k+j<X.length:=by omega
    have hbd:=fourB_bd ((X.drop k).take j) 3 (by rw[List.length_take];omega)
    rw[show (256:Nat) ^ 3=16777216 from by decide]at hbd
    have hjl:j<(X.drop k).length:=by rw[List.length_drop];omega
    have hft:=fourB_take hjl
    rw[show (X.drop k)[j]=X[k+j] from List.getElem_drop ..]at hft
    have hb8:=u8_lt X[k+j]
    refine DWC 1 (λw0 w'=>w'.cell? ⟨b5,8,none⟩=some (.int .u32 (fourB ((X.drop k).take j):Nat))∧Rd w' bx ox (bc X)) [8,9] [0,3,4,5,6,7,3001,2,1008,1009,10,11,1012] ha hs λa w ha hs hH=>?_
    have hC:=hH.at w ⟨hs.rd1 rfl,(hr.rd _ hs.tail.tail).rd (by omega)⟩
    refine RH 6 ha hs hH hC λa ha=>?_
    refine QH ha (λw hc=>ld1 ha (hc.1)) hC λa ha=>?_
    refine RH 1 ha hs hH hC λa ha=>?_
    rw[show IntKind.u32.wrap (((fourB ((X.drop k).take j):Nat):Int)*256)=((fourB ((X.drop k).take j)*256:Nat):Int) from by rw[wrap_u32];omega]at ha
    refine SS ha (ld1 ha (hC.2 (k+j) _ (bc_at hkj))) λa ha=>?_
    refine RH 0 ha hs hH hC λa ha=>?_
    refine SX 0 ha hs (by rw[wrap_u32];omega) λa ha=>?_
    refine RH 1 ha hs hH hC λa ha=>?_
    rw[show IntKind.u32.wrap (((fourB ((X.drop k).take j)*256:Nat):Int)+(X[k+j].toNat:Int))=((fourB ((X.drop k).take (j+1)):Nat):Int) from by rw[wrap_u32,hft];omega]at ha
    refine RH 1 ha hs hH hC λa ha=>?_
    refine ST 0 ha hs (λa w ha hs=>?_)
    refine RN 3 ha hs λa ha=>?_
    exact⟨4-(j+1),by omega,j+1,⟨rfl,by omega⟩,ha.keep [0,2,4,5,7,13],hs⟩
   obtain rfl:j=4:=by omega
   have hr4:=hr.cut hk4
   have hl4:=hr4.len
   have hsum:=fourB_bd ((X.drop k).take 4) 4 (by rw[List.length_take];omega)
   rw[show (256:Nat) ^ 4=4294967296 from by decide]at hsum
   have hk2:∀ q,decP bs q→q.sum=fourB ((X.drop k).take 4)∧X.drop (k+4)=putL (zz (q.press.length:Int))++runsL q.press 0∧q.press.length≤32:=λq h=>by
     obtain⟨h1,h2⟩:=hk1 q h
     rw[← List.drop_drop,h1,tailPk]
     exact⟨(fourB_four h.2.1).symm,rfl,h2⟩
   generalize fourB ((X.drop k).take 4)=sm at hs hsum hk2
   refine RN 8 ha hs λa ha=>?_
   rw[show X.length-(k+4)=(X.drop (k+4)).length from by simp]at ha
   refine CL3 0 ha hs (refGet_spec (bs:=X.drop (k+4)) hs (by omega) (λw' hw=>hr4.rd w' hw.tail.tail)) λx m er a w ha ⟨hgt,hs⟩=>?_
   refine BY 12 ha hs (λhg2 a ha=>?_) λhg2 a ha=>?_
   ·
    refine SA 10 ha hs λa w ha hs=>?_
    refine RT 1 ha hs ?_
    have hno:decO bs=none:=decP_bad λ⟨q,h⟩=>by
      obtain⟨_,e2,h32⟩:=hk2 q h
      have:=(hgt.2.2.2.2 (q.press.length:Int) _ (by omega) (by omega) e2).2.2
      simp[this]at hg2
    exact hpk0 hs.tail.tail hno
   refine BY 4 ha hs (λhg6 a ha=>?_) λhg6 a ha=>?_
   ·
    refine SA 6 ha hs λa w ha hs=>?_
    refine RT 1 ha hs ?_
    have hno:decO bs=none:=decP_bad λ⟨q,h⟩=>by
      obtain⟨_,e2,h32⟩:=hk2 q h
      have:=(hgt.2.2.2.2 (q.press.length:Int) _ (by omega) (by omega) e2).1
      omega
    exact hpk0 hs.tail.tail hno
   refine IF 3 ha hs (λhc7 a ha=>?_) λhc7 a ha=>?_
   ·
    refine SA 2 ha hs λa w ha hs=>?_
    refine RT 1 ha hs ?_
    have hno:decO bs=none:=decP_bad λ⟨q,h⟩=>by
      obtain⟨_,e2,h32⟩:=hk2 q h
      have:=(hgt.2.2.2.2 (q.press.length:Int) _ (by omega) (by omega) e2).1
      omega
    exact hpk0 hs.tail.tail hno
   refine RN 1 ha hs λa ha=>?_
   have hml:=(hgt.2.2.1 (by simpa using hg2)).2
   rw[List.length_drop]at hml
   have hr5:=hr.cut (k:=k+4+m) (by omega)
   refine RN 5 ha hs λa ha=>?_
   rw[show X.length-(k+4+m)=(X.drop (k+4+m)).length from by simp]at ha
   refine CLX 0 ha hs (refUnruns_spec (m:=32) (bs:=X.drop (k+4+m)) hs hr5.len hr5.cap (by omega) (λw' hw=>hr5.rd w' hw.tail.tail)) ?_
   clear ha hs
   rintro e w ⟨out,adO,cO,e2,rfl,hun,hs⟩
   refine⟨_,rfl,λa ha=>?_⟩
   refine RN 5 ha hs λa ha=>?_
   have hk3:∀ q,decP bs q→out=q.press∧e2=0:=λq h=>by
     obtain⟨_,e2,h32⟩:=hk2 q h
     obtain⟨f1,f2,f3⟩:=hgt.2.2.2.2 (q.press.length:Int) _ (by omega) (by omega) e2
     refine hun.2.2 q.press h32 ?_
     rw[← List.drop_drop,e2,f2,List.drop_left]
   refine IF 4 ha hs (λhc8 a ha=>?_) λhc8 a ha=>?_
   ·
    refine SA 2 ha hs λa w ha hs=>?_
    refine RT 1 ha hs ?_
    have hno:decO bs=none:=decP_bad λ⟨q,h⟩=>by
      have:=(hk3 q h).2
      omega
    exact hpk0 hs.tail.tail.tail hno
   refine ST 2 ha hs (λa w ha hs=>?_)
   refine RN 0 ha hs λa ha=>?_
   refine⟨⟨((bs.getD 0 0).toNat:Int),((bs.getD 1 0).toNat:Int),((bs.getD 2 0).toNat:Int),g 0,g 1,g 2,g 3,sm,out⟩,adO,cO,hsum,λq h=>?_,ha.keep [0,2,5],hs⟩
   obtain⟨h1,h2,h3⟩:=(hq1 q h).1
   have h4:=(hqi q h).2
   rw[if_pos (by omega)]at hn
   rw[h4 0 (by omega),h4 1 (by omega),h4 2 (by omega),h4 3 (by omega),← h1,← h2,← h3,(hk3 q h).1,← (hk2 q h).1]
   rfl
  refine RN 0 ha hs λa ha=>?_
  refine⟨⟨((bs.getD 0 0).toNat:Int),((bs.getD 1 0).toNat:Int),((bs.getD 2 0).toNat:Int),g 0,g 1,g 2,g 3,0,[]⟩,none,0,(by show 0<4294967296;decide),λq h=>?_,ha.keep [0,2,5],(((hs.perm (List.Perm.swap _ _ _)).tail.sl0 5 1 none)).perm (List.Perm.swap _ _ _)⟩
  obtain⟨h1,h2,h3⟩:=(hq1 q h).1
  have h4:=(hqi q h).2
  rw[if_neg (by omega)]at hn
  rcases decP_kind h with k | k
  · omega
  · obtain⟨k0,k1,k2,k3,k4,k5⟩:=k
    have h5:=h4 0 (by omega)
    have h6:=hg0 1 (by omega)
    have h7:=hg0 2 (by omega)
    have h8:=hg0 3 (by omega)
    rw[h5,h6,h7,h8,← h1,← h2,← h3]
    show Pk.mk q.kind q.from' q.to q.id 0 0 0 0 []=q
    cases q
    simp_all
 clear ha;(try clear hs)
 rintro a w ⟨p,adP,cP,hsum,hqp,ha,hs⟩
 refine DWC 1 (λw0 w'=>Rd w' b5 0 (pkC p adP cP)∧RdB w' (some ⟨bb,oo,none⟩) bs.length bs) [1,2,3,5,6,7] [4,3000,3001,3005,1002,2003,3006,1007,8] ha hs λa w ha hs hH=>?_
 have hC:=hH.at w ⟨hs.rdAll,hp _ hs.tail.tail.tail⟩
 refine RH 1 ha hs hH hC λa ha=>?_
 refine QH ha (λw hc=>ex_loadN ha Tryz.underlying70 rfl Ty.t70 (hc.1)) hC λa ha=>?_
 refine QH ha (λw hc=>ex_loadN ha Tryz.underlying70 rfl Ty.t70 (hc.1)) hC λa ha=>?_
 refine QH ha (λw hc=>ex_toString ha Tryz.underlying22 Tryz.underlying5 Tryz.underlying9 (hc.2)) hC λa ha=>?_
 refine RH 0 ha hs hH hC λa ha=>?_
 refine CL2 0 ha hs (refPacket_spec (p:=p) hs hsum (λw' hw=>hw.rdB adP p.press rfl rfl)) λadE cE a w ha hs=>?_
 replace hC:=hH.at w ⟨hs.rdAll,hp _ hs.tail.tail.tail.tail⟩
 refine RH 0 ha hs hH hC λa ha=>?_
 refine DN [(3,[3006,1007,8]),(7,[1003,3006,8])] (by kernel_rfl) rfl ⟨⟨_,rfl,?_⟩,⟨_,rfl,?_⟩,trivial⟩
 ·
  refine RH 0 ha hs hH hC λa ha=>?_
  refine SS ha (ex_toString ha Tryz.underlying22 Tryz.underlying5 Tryz.underlying9 ((hs.rdB adE (encO p) rfl rfl))) λa ha=>?_
  refine RH 0 ha hs hH hC λa ha=>?_
  refine QH ha (λw hc=>ex_eqlS ha) hC λa ha=>?_
  refine RH 0 ha hs hH hC λa ha=>?_
  refine SA 0 ha hs λa w ha hs=>?_
  replace hC:=hH.at w ⟨hs.rdAll,hp _ hs.tail.tail.tail.tail⟩
  refine RH 1 ha hs hH hC λa ha=>?_
  refine RT 0 ha hs ?_
  refine⟨p,adP,cP,_,rfl,λh=>?_,λh=>?_,hs.sub⟩
  · rw[str_beq]at h
    exact decO_some ((decP_iff (λe=>by rw[e]at h7;simp at h7) hsum).2 (by simpa using h))
  · refine decP_bad λ⟨q,hd⟩=>?_
    have e:encO p=bs:=by rw[hqp q hd,encO,if_pos hd.1];exact hd.2.2
    rw[e,str_beq]at h
    simp at h
 refine RH 0 ha hs hH hC λa ha=>?_
 refine SA 0 ha hs λa w ha hs=>?_
 replace hC:=hH.at w ⟨hs.rdAll,hp _ hs.tail.tail.tail.tail⟩
 refine RH 0 ha hs hH hC λa ha=>?_
 refine SS ha (ex_toString ha Tryz.underlying22 Tryz.underlying5 Tryz.underlying9 ((hs.rdB adE (encO p) rfl rfl))) λa ha=>?_
 refine RH 0 ha hs hH hC λa ha=>?_
 refine QH ha (λw hc=>ex_eqlS ha) hC λa ha=>?_
 refine RH 1 ha hs hH hC λa ha=>?_
 refine RT 0 ha hs ?_
 refine⟨p,adP,cP,_,rfl,λh=>?_,λh=>?_,hs.sub⟩
 · rw[str_beq]at h
   exact decO_some ((decP_iff (λe=>by rw[e]at h7;simp at h7) hsum).2 (by simpa using h))
 · refine decP_bad λ⟨q,hd⟩=>?_
   have e:encO p=bs:=by rw[hqp q hd,encO,if_pos hd.1];exact hd.2.2
   rw[e,str_beq]at h
   simp at h
end
end
section
section
variable {W w:World}{L:List SP}{c:Nat}{ad:Option Addr}{g:Nat→Int}
theorem state_encode (hs:St W w L):Calls Tryz.prog 91 #[.agg (ints .i32 32 g).toArray] w λe w'=>∃ ad c,e=.returned (.slice ad 128 c)∧St W w' (Sl 5 1 ad 128 c (bc (gameB g))::L):=by
 refine EN Tryz.func91 Tryz.ntmps91 rfl rfl λa ha=>?_
 refine BX 1 ha hs λb1 a w ha hs=>?_
 refine RN 7 ha hs λa ha=>?_
 refine wp_loop_ghost (λμ a w=>∃ (i:Nat) (ad:Option Addr) (c:Nat),(μ=32-i∧i≤32)∧Fr a 16 [(3,.slice ad (gameBn g i).length c),(6,.agg (ints .i32 32 g).toArray),(7,.int .i64 i)]∧St W w (Sl 5 1 ad (gameBn g i).length c (bc (gameBn g i))::L)) (32) (⟨0,none,0,⟨rfl,by omega⟩,ha.keep [3,6,7],hs.tail.sl0 5 1 none⟩) ?_
 clear ha hs
 rintro μ a w ⟨i,ad,c,⟨rfl,hi⟩,ha,hs⟩
 refine IF 3 ha hs (λhc0 a ha=>?_) λhc0 a ha=>?_
 ·
  have hi32:i<32:=by omega
  have hgl:=gameBn_len g i
  refine RN 2 ha hs λa ha=>?_
  refine SS ha (ex_index1 ha Tryz.underlying116 Tryz.underlying21 rfl Ty.t21 (by omega) (ints_get g hi32)) λa ha=>?_
  refine CL1 3 ha hs (word_put hs) λad2 a w ha hs=>?_
  refine RN 0 ha hs λa ha=>?_
  refine st_appendT ha rfl hs Tryz.underlying22 Ty.t5 rfl rfl (by decide) (λh0=>(hs.rdB ad2 (fourL (unI (g i))) rfl rfl).get h0) (by rw[bc_len];rfl) (bc_one _) (by rw[fourL_len];omega) λad13 c13 a w ha hs=>?_
  rw[← bc_app,← gameBn_succ]at hs
  rw[show (gameBn g i).length+(fourL (unI (g i))).length=(gameBn g (i+1)).length from by rw[gameBn_len,gameBn_len,fourL_len];omega]at ha hs
  refine RN 3 ha hs λa ha=>?_
  exact⟨32-(i+1),by omega,i+1,_,_,⟨rfl,by omega⟩,ha.keep [3,6,7],hs.sub⟩
 obtain rfl:i=32:=by omega
 rw[show (gameBn g 32).length=128 from gameBn_len g 32]at ha hs
 refine RT 3 ha hs ?_
 exact⟨_,_,rfl,hs⟩
theorem state_sum (hs:St W w L):Calls Tryz.prog 175 #[.agg (ints .i32 32 g).toArray] w λe w'=>e=.returned (.int .u32 (crcSum (gameB g)))∧St W w' L:=by
 refine EN Tryz.func175 Tryz.ntmps175 rfl rfl λa ha=>?_
 refine BX 1 ha hs λb1 a w ha hs=>?_
 refine CL2 3 ha hs (state_encode hs) λad c a w ha hs=>?_
 rw[show 128=(gameB g).length from (gameB_len g).symm]at ha hs
 refine CL 0 ha hs (crc_sum hs (by rw[gameB_len];decide) (λw' hw=>hw.rdB ad (gameB g) rfl rfl)) λa w ha hs=>?_
 refine RT 1 ha hs ?_
 exact⟨rfl,hs.sub⟩
theorem refBytes_spec (hs:St W w L):Calls Tryz.prog 136 #[.agg (ints .i32 32 g).toArray] w λe w'=>∃ ad c,e=.returned (.slice ad 128 c)∧St W w' (Sl 5 1 ad 128 c (bc (gameB g))::L):=by
 refine EN Tryz.func136 Tryz.ntmps136 rfl rfl λa ha=>?_
 refine BX 1 ha hs λb1 a w ha hs=>?_
 refine RN 6 ha hs λa ha=>?_
 refine wp_loop_ghost (λμ a w=>∃ (i:Nat) (ad:Option Addr) (c:Nat),(μ=32-i∧i≤32)∧Fr a 17 [(1,pt b1),(3,.slice ad (gameBn g i).length c),(4,.int .i64 i)]∧St W w (Sl 5 1 ad (gameBn g i).length c (bc (gameBn g i))::blk b1 63 (ints .i32 32 g)::L)) (32) (⟨0,none,0,⟨rfl,by omega⟩,ha.keep [1,3,4],hs.sl0 5 1 none⟩) ?_
 clear ha hs
 rintro μ a w ⟨i,ad,c,⟨rfl,hi⟩,ha,hs⟩
 refine IF 4 ha hs (λhc0 a ha=>?_) λhc0 a ha=>?_
 ·
  have hi32:i<32:=by omega
  have hgl:=gameBn_len g i
  refine RN 4 ha hs λa ha=>?_
  refine SS ha (ld1 ha (hs.rd1 (b:=b1) (ints_get g hi32))) λa ha=>?_
  refine RN 0 ha hs λa ha=>?_
  refine SS ha (ex_convII ha Tryz.underlying21 Tryz.underlying68) λa ha=>?_
  rw[wrap_un]at ha
  refine CL1 0 ha hs (refFour_spec hs) λad2 a w ha hs=>?_
  refine RN 0 ha hs λa ha=>?_
  refine st_appendT ha rfl hs Tryz.underlying22 Ty.t5 rfl rfl (by decide) (λh0=>(hs.rdB ad2 (fourL (unI (g i))) rfl rfl).get h0) (by rw[bc_len];rfl) (bc_one _) (by rw[fourL_len];omega) λad15 c15 a w ha hs=>?_
  rw[← bc_app,← gameBn_succ]at hs
  rw[show (gameBn g i).length+(fourL (unI (g i))).length=(gameBn g (i+1)).length from by rw[gameBn_len,gameBn_len,fourL_len];omega]at ha hs
  refine RN 4 ha hs λa ha=>?_
  exact⟨32-(i+1),by omega,i+1,_,_,⟨rfl,by omega⟩,ha.keep [1,3,4],hs.sub⟩
 obtain rfl:i=32:=by omega
 rw[show (gameBn g 32).length=128 from gameBn_len g 32]at ha hs
 refine RT 3 ha hs ?_
 exact⟨_,_,rfl,(hs.perm (List.Perm.swap _ _ _)).tail⟩
theorem refSumOf_spec (hs:St W w L):Calls Tryz.prog 135 #[.agg (ints .i32 32 g).toArray] w λe w'=>e=.returned (.int .u32 (crcSum (gameB g)))∧St W w' L:=by
 refine EN Tryz.func135 Tryz.ntmps135 rfl rfl λa ha=>?_
 refine BX 1 ha hs λb1 a w ha hs=>?_
 refine CL2 3 ha hs (refBytes_spec hs) λad c a w ha hs=>?_
 rw[show 128=(gameB g).length from (gameB_len g).symm]at ha hs
 refine CL 0 ha hs (refSum_spec hs (by rw[gameB_len];decide) (λw' hw=>hw.rdB ad (gameB g) rfl rfl)) λa w ha hs=>?_
 refine RT 1 ha hs ?_
 exact⟨rfl,hs.sub⟩
end
end
end Go.Proofs.YtdilfdkendjjhaaGreat
