/- Packets out of bytes: packet.Decode. -/
import Derived.Test.YtdilfdkendjjhaaGreatP06PktP
import Derived.Test.YtdilfdkendjjhaaGreatP01Str
import Derived.Test.YtdilfdkendjjhaaGreatP04Num
namespace Go.Proofs.YtdilfdkendjjhaaGreat
open Go.RowKit
set_option linter.unusedVariables false
set_option linter.unusedSimpArgs false
set_option maxRecDepth 10000
set_option synthInstance.maxSize 4000
set_option synthInstance.maxHeartbeats 400000
section
def i64P (x:Int):Prop := -9223372036854775808≤x∧x≤9223372036854775807
def fourB (l:List UInt8):Nat:=l.foldl (λn b=>n*256+b.toNat) 0
theorem fourB_lt:∀ (l:List UInt8) (a:Nat),l.foldl (λn b=>n*256+b.toNat) a<(a+1)*256 ^ l.length
 | [],a=>by simp
 | b::l,a=>by
   have h1:=fourB_lt l (a*256+b.toNat)
   have h2:=u8_lt b
   rw[List.foldl_cons,List.length_cons]
   refine Nat.lt_of_lt_of_le h1 ?_
   rw[Nat.pow_succ,Nat.mul_comm (256 ^ l.length) 256,← Nat.mul_assoc]
   exact Nat.mul_le_mul_right _ (by omega)
theorem fourB_four {x:Nat}(h:x<4294967296):fourB (fourL x)=x:=by
 have:=fourL_back h
 simpa [fourB,fourL,fourN] using this
theorem fourB_take {l:List UInt8}{i:Nat}(h:i<l.length):fourB (l.take (i+1))=fourB (l.take i)*256+l[i].toNat:=by
 rw[fourB,List.take_succ_eq_append_getElem h,List.foldl_append];rfl
theorem fourB_bd (l:List UInt8)(n:Nat)(h:l.length≤n):fourB l<256 ^ n:=by
 have:=fourB_lt l 0
 rw[Nat.zero_add,Nat.one_mul]at this
 exact Nat.lt_of_lt_of_le this (Nat.pow_le_pow_right (by decide) h)
theorem shl8 {n:Nat}(h:n<16777216)(b:UInt8):IntKind.u32.wrap (((BitVec.ofInt IntKind.u32.bits (IntKind.u32.wrap ((n:Int)*2 ^ 8)) ||| BitVec.ofInt IntKind.u32.bits (b.toNat:Int)).toNat:Nat):Int)=((n*256+b.toNat:Nat):Int):=by
 have hb:=u8_lt b
 rw[show IntKind.u32.wrap ((n:Int)*2 ^ 8)=((n*256:Nat):Int) from by rw[wrap_u32];omega,bv32,bv32]
 show IntKind.u32.wrap (((BitVec.ofNat 32 (n*256) ||| BitVec.ofNat 32 b.toNat).toNat:Nat):Int)=_
 rw[BitVec.toNat_or,BitVec.toNat_ofNat,BitVec.toNat_ofNat,Nat.mod_eq_of_lt (show n*256<2 ^ 32 by omega),Nat.mod_eq_of_lt (show b.toNat<2 ^ 32 by omega),wrap_u32]
 have h1:=Nat.two_pow_add_eq_or_of_lt (i:=8) (b:=b.toNat) hb n
 rw[show n*256=2 ^ 8*n from by omega,← h1]
 omega
structure Rdr (W:World)(L:List SP)(ad:Option Addr)(c:Nat)(rest:List UInt8):Prop where
 len:rest.length≤65536
 cap:rest.length≤c
 rd:∀ w',St W w' L→RdB w' ad rest.length rest
section
variable {W w:World}{L L':List SP}{n c m rb:Nat}{ad:Option Addr}{bs rest:List UInt8}{p:Pk}{bad:Bool}
theorem Rdr.cut {k:Nat}(h:Rdr W L ad c rest)(hk:k≤rest.length):Rdr W L (cutAd ad k c 1) (c-k) (rest.drop k) :=
 ⟨by rw[List.length_drop];have:=h.len;omega,by rw[List.length_drop];have:=h.cap;omega,λw' hw=>(h.rd w' hw).cutL hk h.cap⟩
theorem rd_num (hs:St W w (blk rb 334 [.slice ad rest.length c,.bool bad]::L'))(hup:∀ w',St W w' L'→St W w' L)(hr:Rdr W L ad c rest) :
   Calls Tryz.prog 241 #[pt rb] w λe w'=>∃ (x:Int) (ad':Option Addr) (c':Nat) (rest':List UInt8) (bad':Bool),e=.returned (.int .i64 x)∧i64P x∧Rdr W L ad' c' rest' ∧
     (∀ (n:Int) (r:List UInt8),i64P n→rest=putL (zz n)++r→bad=false→x=n∧rest'=r∧bad'=false)∧St W w' (blk rb 334 [.slice ad' rest'.length c',.bool bad']::L'):=by
 have hlen:=hr.len
 refine EN Tryz.func241 Tryz.ntmps241 rfl rfl λa ha=>?_
 refine CL3 7 ha hs (num_get (bs:=rest) hs (by omega) (λw' hw=>hr.rd w' (hup _ hw.tail))) λx k er a w ha ⟨hg,hs⟩=>?_
 refine RN 7 ha hs λa ha=>?_
 have hgk:=hg.2.2.1
 have hge:=hg.2.1
 have hkl:k≤rest.length:=by
   by_cases h0:er=0
   · have:=hgk h0;omega
   · have:=(hg.2.2.2.1 h0).1;omega
 refine wp_seq_cut (M:=λa w=>∃ (z:Bool) (ad':Option Addr) (c':Nat) (rest':List UInt8),(er=0→bad=false→z=false)∧Rdr W L ad' c' rest'∧(z=false→rest'=rest.drop k)∧Fr a 41 [(3,.int .i64 x)]∧St W w (blk rb 334 [.slice ad' rest'.length c',.bool z]::L')) ?_ ?_
 ·
  refine wp_seq_cut (M:=λa w=>∃ z:Bool,(bad=true→z=true)∧(er=0→bad=false→z=false)∧Fr a 41 [(0,pt rb),(3,.int .i64 x),(4,.int .i64 k)]∧St W w (blk rb 334 [.slice ad rest.length c,.bool z]::L')) ?_ ?_
  ·
   refine BY 6 ha hs (λhg5 a ha=>?_) λhg5 a ha=>?_
   ·
    refine ST 5 ha hs (λa w ha hs=>?_)
    refine RN 0 ha hs λa ha=>?_
    exact⟨_,λ_=>rfl,λ_ h=>(by rw[h]at hg5;cases hg5),ha.keep [0,3,4],hs⟩
   refine ST 5 ha hs (λa w ha hs=>?_)
   refine RN 0 ha hs λa ha=>?_
   exact⟨_,λh=>(by rw[h]at hg5;cases hg5),λh _=>decide_eq_false (by omega),ha.keep [0,3,4],hs⟩
  clear ha;(try clear hs)
  rintro a w ⟨z,hz1,hz0,ha,hs⟩
  refine IF 6 ha hs (λhc0 a ha=>?_) λhc0 a ha=>?_
  ·
   have hz:z=false:=hc0
   refine RN 7 ha hs λa ha=>?_
   rw[show rest.length-k=(rest.drop k).length from by simp]at ha
   refine ST 2 ha hs (λa w ha hs=>?_)
   refine RN 0 ha hs λa ha=>?_
   exact⟨_,_,_,_,hz0,hr.cut hkl,λ_=>rfl,ha.keep [3],hs⟩
  refine RN 0 ha hs λa ha=>?_
  exact⟨_,_,_,_,hz0,hr,λh=>(by rw[h]at hc0;cases hc0),ha.keep [3],hs⟩
 clear ha;(try clear hs)
 rintro a w ⟨z,ad',c',rest',hz0,hr',hd',ha,hs⟩
 refine RT 3 ha hs ?_
 refine⟨x,ad',c',rest',z,rfl,hg.1,hr',λn r hn e hb=>?_,hs⟩
 obtain⟨rfl,rfl,rfl⟩:=hg.2.2.2.2 n r hn.1 hn.2 e
 have hz:=hz0 rfl hb
 refine⟨rfl,?_,hz⟩
 rw[hd' hz,e,List.drop_left]
theorem rd_four (hs:St W w (blk rb 334 [.slice ad rest.length c,.bool bad]::L'))(hup:∀ w',St W w' L'→St W w' L)(hr:Rdr W L ad c rest) :
   Calls Tryz.prog 242 #[pt rb] w λe w'=>∃ (x:Nat) (ad':Option Addr) (c':Nat) (rest':List UInt8) (bad':Bool),e=.returned (.int .u32 x)∧x<4294967296∧Rdr W L ad' c' rest' ∧
     (∀ (n:Nat) (r:List UInt8),n<4294967296→rest=fourL n++r→bad=false→x=n∧rest'=r∧bad'=false)∧St W w' (blk rb 334 [.slice ad' rest'.length c',.bool bad']::L'):=by
 have hlen:=hr.len
 have hcap:=hr.cap
 refine EN Tryz.func242 Tryz.ntmps242 rfl rfl λa ha=>?_
 refine RN 3 ha hs λa ha=>?_
 refine wp_seq_cut (M:=λa w=>∃ z:Bool,(z=true↔(bad=true∨rest.length<4))∧Fr a 50 [(0,pt rb)]∧St W w (blk rb 334 [.slice ad rest.length c,.bool z]::L')) ?_ ?_
 ·
  refine BY 6 ha hs (λhg5 a ha=>?_) λhg5 a ha=>?_
  ·
   refine ST 9 ha hs (λa w ha hs=>?_)
   refine RN 0 ha hs λa ha=>?_
   exact⟨_,⟨λ_=>.inl hg5,λ_=>rfl⟩,ha.keep [0],hs⟩
  refine ST 9 ha hs (λa w ha hs=>?_)
  refine RN 0 ha hs λa ha=>?_
  exact⟨_,(by rw[decide_eq_true_iff,hg5];simp;omega),ha.keep [0],hs⟩
 clear ha;(try clear hs)
 rintro a w ⟨z,hz,ha,hs⟩
 refine IF 5 ha hs (λhc0 a ha=>?_) λhc0 a ha=>?_
 ·
  have hzt:=hz.1 hc0
  refine RT 2 ha hs ?_
  refine⟨0,ad,c,rest,true,rfl,by decide,hr,λn r hn e hb=>?_,by rw[hc0]at hs;exact hs⟩
  rcases hzt with h | h
  · rw[hb]at h;cases h
  · rw[e,List.length_append,fourL_len]at h;omega
 have hzf:¬ (bad=true∨rest.length<4):=λh=>by rw[hz.2 h]at hc0;cases hc0
 have h4:4≤rest.length:=Nat.le_of_not_lt λh=>hzf (.inr h)
 obtain⟨bb,oo,rfl,_⟩:=(hr.rd _ (hup _ hs.tail)).get (by omega)
 have htl:(rest.take 4).length=4:=by rw[List.length_take];omega
 refine RN 9 ha hs λa ha=>?_
 rw[cutAd_zero,Nat.sub_zero,Nat.sub_zero]at ha
 refine RN 2 ha hs λa ha=>?_
 refine wp_loop_ghost (λμ a w=>∃ (i:Nat),(μ=4-i∧i≤4)∧Fr a 50 [(0,pt rb),(3,.int .u32 (fourB (rest.take i))),(29,.slice (some ⟨bb,oo,none⟩) 4 c),(30,.int .i64 4),(31,.int .i64 i)]∧St W w (blk rb 334 [.slice (some ⟨bb,oo,none⟩) rest.length c,.bool z]::L')) (4) (⟨0,⟨rfl,by omega⟩,ha.keep [0,3,29,30,31],hs⟩) ?_
 clear ha hs
 rintro μ a w ⟨i,⟨rfl,hi⟩,ha,hs⟩
 refine IF 3 ha hs (λhc1 a ha=>?_) λhc1 a ha=>?_
 ·
  have hil:i<rest.length:=by omega
  have hbd:=fourB_bd (rest.take i) 3 (by rw[List.length_take];omega)
  rw[show (256:Nat) ^ 3=16777216 from by decide]at hbd
  have hb8:=u8_lt rest[i]
  refine RN 3 ha hs λa ha=>?_
  refine SS ha (ld1 ha (((hr.rd _ (hup _ hs.tail)).rd (by omega)) i _ (bc_at hil))) λa ha=>?_
  refine SX 4 ha hs (by rw[wrap_u32];omega) λa ha=>?_
  refine RN 1 ha hs λa ha=>?_
  rw[shl8 hbd,← fourB_take hil]at ha
  refine RN 3 ha hs λa ha=>?_
  exact⟨4-(i+1),by omega,i+1,⟨rfl,by omega⟩,ha.keep [0,3,29,30,31],hs⟩
 obtain rfl:i=4:=by omega
 refine RN 7 ha hs λa ha=>?_
 rw[show rest.length-4=(rest.drop 4).length from by simp]at ha
 refine ST 2 ha hs (λa w ha hs=>?_)
 refine RT 3 ha hs ?_
 have hbd:=fourB_bd (rest.take 4) 4 (by rw[List.length_take];omega)
 rw[show (256:Nat) ^ 4=4294967296 from by decide]at hbd
 refine⟨_,_,_,_,z,rfl,hbd,hr.cut h4,λn r hn e hb=>?_,hs⟩
 have ht:rest.take 4=fourL n:=by rw[e];rfl
 have hd:rest.drop 4=r:=by rw[e];rfl
 exact⟨by rw[ht,fourB_four hn],hd,hc0⟩
theorem bytes_equalS {a b:List UInt8}{ad2:Option Addr}{m n c2:Nat}(hs:St W w L)(ha':RdB w ad m a)(hb':RdB w ad2 n b) :
   Calls Tryz.prog 211 #[.slice ad m c,.slice ad2 n c2] w λe w'=>e=.returned (.bool (a==b))∧St W w' L :=
 (bytes_equal ha' hb').mono λe w' h=>⟨h.1,by rw[h.2];exact hs⟩
theorem decP_head {bs:List UInt8}{q:Pk}(h:decP bs q):(q.kind=((bs.getD 0 0).toNat:Int)∧q.from'=((bs.getD 1 0).toNat:Int)∧q.to=((bs.getD 2 0).toNat:Int))∧(bs.drop 3).take (bs.length-7)=midPk q:=by
 have h1:=encPk_head h.2.2
 obtain⟨f1,t1,n1,i1,k1⟩:=h.1
 refine⟨?_,encPk_mid h.2.2⟩
 simp only[List.getD_eq_getElem?_getD,h1.1,h1.2.1,h1.2.2,Option.getD_some,UInt8.toNat_ofNat']
 omega
theorem i64u8 (b:UInt8):IntKind.i64.wrap (b.toNat:Int)=(b.toNat:Int):=wrap_in (by omega) (by have:=u8_lt b;omega)
theorem decP_bad {bs:List UInt8}(h:¬ ∃ q,decP bs q):decO bs=none:=decO_none λq hq=>h ⟨q,hq⟩
def Dec (bs:List UInt8)(p:Pk)(adP:Option Addr)(cP:Nat)(ok:Bool):Prop:=(ok=true∧decO bs=some p)∨(ok=false∧decO bs=none∧p=pk0∧adP=none∧cP=0)
theorem packet_dec (hs:St W w L)(hb:bs.length≤65536)(hc:bs.length≤c)(hp:∀ w',St W w' L→RdB w' ad bs.length bs) :
   Calls Tryz.prog 204 #[.slice ad bs.length c] w λe w'=>∃ (p:Pk) (adP:Option Addr) (cP:Nat) (ok:Bool),e=.returned (.tuple #[.agg (pkC p adP cP).toArray,.int .i64 (if ok=true then 0 else 1)])∧Dec bs p adP cP ok∧St W w' (Sl 5 1 adP p.press.length cP (bc p.press)::L):=by
 refine EN Tryz.func204 Tryz.ntmps204 rfl rfl λa ha=>?_
 refine AL 1 ha hs λb2 a w ha hs=>?_
 refine IF 6 ha hs (λhc0 a ha=>?_) λhc0 a ha=>?_
 ·
  have hno:decO bs=none:=decO_none λq hq=>by
    have:=congrArg List.length hq.2.2
    rw[encPk_len]at this;omega
  refine SA 2 ha hs λa w ha hs=>?_
  refine RT 1 ha hs ?_
  exact⟨pk0,none,0,false,rfl,.inr ⟨rfl,hno,rfl,rfl,rfl⟩,hs.tail.sl0 _ _ _⟩
 obtain⟨bb,oo,rfl,_⟩:=(hp _ hs.tail).get (by omega)
 have h7:7≤bs.length:=by omega
 refine DWC 1 (λw0 w=>Rd w bb oo (bc bs)) [6,7,10,11,13] [0,1,4,5,8,9,3002,3,3006,3007,3010,3011,12,1013,1014] ha hs λa w ha hs hH=>?_
 have hC:Rd w bb oo (bc bs):=(hp _ hs.tail).rd (by omega)
 refine RH 6 ha hs hH hC λa ha=>?_
 refine QH ha (λw hc=>ld1 ha (hc 0 _ (bc_atD (by omega)))) hC λa ha=>?_
 refine QP ha (λw=>ex_convIIs ha Tryz.underlying5 Tryz.underlying3 (i64u8 _)) λa ha=>?_
 refine QH ha (λw hc=>ld1 ha (hc 1 _ (bc_atD (by omega)))) hC λa ha=>?_
 refine QH ha (λw hc=>ex_convIIs ha Tryz.underlying5 Tryz.underlying3 (i64u8 _)) hC λa ha=>?_
 refine QH ha (λw hc=>ld1 ha (hc 2 _ (bc_atD (by omega)))) hC λa ha=>?_
 refine QH ha (λw hc=>ex_convIIs ha Tryz.underlying5 Tryz.underlying3 (i64u8 _)) hC λa ha=>?_
 refine RH 1 ha hs hH hC λa ha=>?_
 refine st_alloc ha rfl hs Ty.t70 rfl λb4 a w ha hs ho=>?_
 clear ho
 replace hC:=hH.at w ((hp _ hs.tail.tail).rd (by omega))
 refine RH 0 ha hs hH hC λa ha=>?_
 refine SA 0 ha hs λa w ha hs=>?_
 refine RN 5 ha hs λa ha=>?_
 rw[show (bs.length:Int)-4=((bs.length-4:Nat):Int) from by omega]at ha
 refine RN 1 ha hs λa ha=>?_
 obtain⟨R1,hR1⟩:∃ R1,R1=(bs.drop 3).take (bs.length-7):=⟨_,rfl⟩
 have hl1:R1.length=bs.length-7:=by rw[hR1,List.length_take,List.length_drop];omega
 have hr1:Rdr W L (cutAd (some ⟨bb,oo,none⟩) 3 c 1) (c-3) R1:=⟨by omega,by omega,λw' hw=>by
   rw[hl1,hR1]
   exact ((hp w' hw).cutL (lo:=3) (by omega) hc).cutH (by rw[List.length_drop];omega)⟩
 have hq1:∀ q,decP bs q→(q.kind=((bs.getD 0 0).toNat:Int)∧q.from'=((bs.getD 1 0).toNat:Int)∧q.to=((bs.getD 2 0).toNat:Int))∧R1=midPk q:=λq h=>by
   rw[hR1];exact decP_head h
 rw[show bs.length-4-3=R1.length from by omega]at ha
 generalize cutAd (some ⟨bb,oo,none⟩) 3 c 1=ad1 at ha hr1
 generalize c-3=c1 at ha hr1
 generalize R1=R1 at ha hr1 hq1
 refine BX 1 ha hs λb33 a w ha hs=>?_
 refine CLX 3 ha hs (rd_num (L:=L) hs (λ_ h=>h.tail.tail) hr1) ?_
 clear ha hs
 rintro e w ⟨x1,ad2,c2,R2,z2,rfl,hx1,hr2,hq2,hs⟩
 refine⟨_,rfl,λa ha=>?_⟩
 refine ST 1 ha hs (λa w ha hs=>?_)
 refine RN 0 ha hs λa ha=>?_
 replace hq2:∀ q,decP bs q→(q.kind=((bs.getD 0 0).toNat:Int)∧q.from'=((bs.getD 1 0).toNat:Int)∧q.to=((bs.getD 2 0).toNat:Int)∧q.id=x1)∧R2=numsPk q∧z2=false:=λq h=>by
   obtain⟨h1,h2⟩:=hq1 q h
   obtain⟨e1,e2,e3⟩:=hq2 q.id (numsPk q) ⟨by have:=h.1.2.2.2.1;omega,by have:=h.1.2.2.2.1;omega⟩ (by rw[h2,midPk]) rfl
   exact⟨⟨h1.1,h1.2.1,h1.2.2,e1.symm⟩,e2,e3⟩
 refine wp_seq_cut (M:=λa w=>∃ (p:Pk) (adP:Option Addr) (cP:Nat) (ad':Option Addr) (c':Nat) (R':List UInt8) (z:Bool),p.sum<4294967296∧(∀ q,decP bs q→p=q∧z=false)∧Fr a 91 [(0,.slice (some ⟨bb,oo,none⟩) bs.length c),(2,pt b2),(4,pt b4),(5,pt b33)]∧St W w (blk b4 70 (pkC p adP cP)::Sl 5 1 adP p.press.length cP (bc p.press)::blk b33 334 [.slice ad' R'.length c',.bool z]::blk b2 70 (pkC pk0 none 0)::L)) ?_ ?_
 ·
  refine IF 4 ha hs (λhc1 a ha=>?_) λhc1 a ha=>?_
  ·
   have hn1:∀ q,decP bs q→numsPk q=putL (zz q.first)++(putL (zz q.ack)++(putL (zz q.frame)++tailPk q))∧(i64P q.first∧i64P q.ack∧i64P q.frame)∧q.press.length≤32:=λq h=>by
     have hk:=(hq2 q h).1.1
     rw[hc1]at hk
     rcases h.1.2.2.2.2 with k | k
     · obtain⟨_,k1,k2,k3,k4⟩:=k
       unfold frP at k1 k2 k3
       exact⟨by rw[numsPk,if_pos hk],⟨⟨by omega,by omega⟩,⟨by omega,by omega⟩,⟨by omega,by omega⟩⟩,k4⟩
     · omega
   refine CLX 2 ha hs (rd_num (L:=L) (hs.perm (List.Perm.swap _ _ _)) (λ_ h=>h.tail.tail) hr2) ?_
   clear ha hs
   rintro e w ⟨x2,ad3,c3,R3,z3,rfl,hx2,hr3,hq3,hs⟩
   refine⟨_,rfl,λa ha=>?_⟩
   replace hq3:∀ q,decP bs q→q.first=x2∧R3=putL (zz q.ack)++(putL (zz q.frame)++tailPk q)∧z3=false:=λq h=>by
     obtain⟨_,h2,h3⟩:=hq2 q h
     obtain⟨e1,e2,e3⟩:=hq3 q.first _ (hn1 q h).2.1.1 (by rw[h2,(hn1 q h).1]) h3
     exact⟨e1.symm,e2,e3⟩
   refine ST 1 ha hs (λa w ha hs=>?_)
   refine CLX 2 ha hs (rd_num (L:=L) (hs.perm (List.Perm.swap _ _ _)) (λ_ h=>h.tail.tail) hr3) ?_
   clear ha hs
   rintro e w ⟨x3,ad4,c4,R4,z4,rfl,hx3,hr4,hq4,hs⟩
   refine⟨_,rfl,λa ha=>?_⟩
   replace hq4:∀ q,decP bs q→q.ack=x3∧R4=putL (zz q.frame)++tailPk q∧z4=false:=λq h=>by
     obtain⟨_,h2,h3⟩:=hq3 q h
     obtain⟨e1,e2,e3⟩:=hq4 q.ack _ (hn1 q h).2.1.2.1 h2 h3
     exact⟨e1.symm,e2,e3⟩
   refine ST 1 ha hs (λa w ha hs=>?_)
   refine CLX 2 ha hs (rd_num (L:=L) (hs.perm (List.Perm.swap _ _ _)) (λ_ h=>h.tail.tail) hr4) ?_
   clear ha hs
   rintro e w ⟨x4,ad5,c5,R5,z5,rfl,hx4,hr5,hq5,hs⟩
   refine⟨_,rfl,λa ha=>?_⟩
   replace hq5:∀ q,decP bs q→q.frame=x4∧R5=fourL q.sum++(putL (zz (q.press.length:Int))++runsL q.press 0)∧z5=false:=λq h=>by
     obtain⟨_,h2,h3⟩:=hq4 q h
     obtain⟨e1,e2,e3⟩:=hq5 q.frame _ (hn1 q h).2.1.2.2 h2 h3
     exact⟨e1.symm,by rw[e2,tailPk],e3⟩
   refine ST 1 ha hs (λa w ha hs=>?_)
   refine CLX 2 ha hs (rd_four (L:=L) (hs.perm (List.Perm.swap _ _ _)) (λ_ h=>h.tail.tail) hr5) ?_
   clear ha hs
   rintro e w ⟨x5,ad6,c6,R6,z6,rfl,hx5,hr6,hq6,hs⟩
   refine⟨_,rfl,λa ha=>?_⟩
   replace hq6:∀ q,decP bs q→q.sum=x5∧R6=putL (zz (q.press.length:Int))++runsL q.press 0∧z6=false:=λq h=>by
     obtain⟨_,h2,h3⟩:=hq5 q h
     obtain⟨e1,e2,e3⟩:=hq6 q.sum _ h.2.1 h2 h3
     exact⟨e1.symm,e2,e3⟩
   refine ST 1 ha hs (λa w ha hs=>?_)
   refine CLX 2 ha hs (rd_num (L:=L) (hs.perm (List.Perm.swap _ _ _)) (λ_ h=>h.tail.tail) hr6) ?_
   clear ha hs
   rintro e w ⟨x6,ad7,c7,R7,z7,rfl,hx6,hr7,hq7,hs⟩
   refine⟨_,rfl,λa ha=>?_⟩
   replace hq7:∀ q,decP bs q→(q.press.length:Int)=x6∧R7=runsL q.press 0∧z7=false:=λq h=>by
     obtain⟨_,h2,h3⟩:=hq6 q h
     have hpl:=(hn1 q h).2.2
     obtain⟨e1,e2,e3⟩:=hq7 q.press.length _ ⟨by omega,by omega⟩ h2 h3
     exact⟨e1.symm,e2,e3⟩
   refine CLX 6 ha hs (runs_dec (m:=32) hs hr7.len hr7.cap (by omega) (λw' hw=>hr7.rd w' hw.tail.tail.tail)) ?_
   clear ha hs
   rintro e w ⟨out,adO,cO,er,rfl,hun,hs⟩
   refine⟨_,rfl,λa ha=>?_⟩
   refine BY 10 ha hs (λhg2 a ha=>?_) λhg2 a ha=>?_
   ·
    refine SA 8 ha hs λa w ha hs=>?_
    refine RT 1 ha hs ?_
    have hno:decO bs=none:=decP_bad λ⟨q,h⟩=>by
      obtain⟨_,e2,_⟩:=hq7 q h
      have:=(hun.2.2 q.press (hn1 q h).2.2 e2).2
      simp[this]at hg2
    exact⟨pk0,none,0,false,rfl,.inr ⟨rfl,hno,rfl,rfl,rfl⟩,hs.sub.sl0 _ _ _⟩
   refine IF 5 ha hs (λhc2 a ha=>?_) λhc2 a ha=>?_
   ·
    refine SA 2 ha hs λa w ha hs=>?_
    refine RT 1 ha hs ?_
    have hno:decO bs=none:=decP_bad λ⟨q,h⟩=>by
      obtain⟨e1,e2,_⟩:=hq7 q h
      have:=(hun.2.2 q.press (hn1 q h).2.2 e2).1
      rw[this]at hc2
      omega
    exact⟨pk0,none,0,false,rfl,.inr ⟨rfl,hno,rfl,rfl,rfl⟩,hs.sub.sl0 _ _ _⟩
   refine ST 2 ha hs (λa w ha hs=>?_)
   refine RN 0 ha hs λa ha=>?_
   refine⟨⟨((bs.getD 0 0).toNat:Int),((bs.getD 1 0).toNat:Int),((bs.getD 2 0).toNat:Int),x1,x2,x3,x4,x5,out⟩,adO,cO,ad7,c7,R7,z7,by assumption,λq h=>?_,ha.keep [0,2,4,5],hs⟩
   obtain⟨h1,h2,h3,h4⟩:=(hq2 q h).1
   have h5:=(hq3 q h).1
   have h6:=(hq4 q h).1
   have h7:=(hq5 q h).1
   have h8:=(hq6 q h).1
   have h9:=hq7 q h
   have h10:=(hun.2.2 q.press (hn1 q h).2.2 h9.2.1).1
   refine⟨?_,h9.2.2⟩
   rw[← h1,← h2,← h3,← h4,← h5,← h6,← h7,← h8,h10]
  refine RN 0 ha hs λa ha=>?_
  refine⟨⟨((bs.getD 0 0).toNat:Int),((bs.getD 1 0).toNat:Int),((bs.getD 2 0).toNat:Int),x1,0,0,0,0,[]⟩,none,0,ad2,c2,R2,z2,by show 0<4294967296;decide,λq h=>?_,ha.keep [0,2,4,5],(hs.sl0 5 1 none).perm (List.Perm.swap _ _ _)⟩
  obtain⟨⟨h1,h2,h3,h4⟩,_,h5⟩:=hq2 q h
  rw[← h1]at hc1
  rcases h.1.2.2.2.2 with k | k
  · exact absurd k.1 hc1
  · obtain⟨k0,k1,k2,k3,k4,k5⟩:=k
    have k4:=List.eq_nil_of_length_eq_zero k4
    refine⟨?_,h5⟩
    rw[← h1,← h2,← h3,← h4]
    cases q
    simp_all
 clear ha;(try clear hs)
 rintro a w ⟨p,adP,cP,ad8,c8,R8,z8,hsum,hq8,ha,hs⟩
 refine CL2 3 ha hs (packet_enc (p:=p) hs hsum (λw' hw=>hw.rdB adP p.press rfl rfl)) λadE cE a w ha hs=>?_
 refine BY 7 ha hs (λhg4 a ha=>?_) λhg4 a ha=>?_
 ·
  refine SA 12 ha hs λa w ha hs=>?_
  refine RT 1 ha hs ?_
  have hno:decO bs=none:=decP_bad λ⟨q,h⟩=>by
    rw[(hq8 q h).2]at hg4;cases hg4
  exact⟨pk0,none,0,false,rfl,.inr ⟨rfl,hno,rfl,rfl,rfl⟩,hs.sub.sl0 _ _ _⟩
 refine BY 4 ha hs (λhg8 a ha=>?_) λhg8 a ha=>?_
 ·
  refine SA 8 ha hs λa w ha hs=>?_
  refine RT 1 ha hs ?_
  have hno:decO bs=none:=decP_bad λ⟨q,h⟩=>by
    have hn:=(hs.rdB adE (encO p) rfl rfl).2.1 (by cases adE with
      | none=>rfl
      | some _=>cases hg8)
    rw[(hq8 q h).1,encO,if_pos h.1,encPk_len]at hn;omega
  exact⟨pk0,none,0,false,rfl,.inr ⟨rfl,hno,rfl,rfl,rfl⟩,hs.sub.sl0 _ _ _⟩
 refine CL 2 ha hs (bytes_equalS hs (hs.rdB adE (encO p) rfl rfl) (hp _ hs.tail.tail.tail.tail.tail)) λa w ha hs=>?_
 refine IF 2 ha hs (λhc3 a ha=>?_) λhc3 a ha=>?_
 ·
  refine SA 2 ha hs λa w ha hs=>?_
  refine RT 1 ha hs ?_
  have hno:decO bs=none:=decP_bad λ⟨q,h⟩=>by
    have e:encO p=bs:=by rw[(hq8 q h).1,encO,if_pos h.1];exact h.2.2
    rw[e]at hc3;simp at hc3
  exact⟨pk0,none,0,false,rfl,.inr ⟨rfl,hno,rfl,rfl,rfl⟩,hs.sub.sl0 _ _ _⟩
 refine SA 2 ha hs λa w ha hs=>?_
 refine RT 1 ha hs ?_
 exact⟨p,adP,cP,true,rfl,.inl ⟨rfl,decO_some ((decP_iff (λe=>by rw[e]at h7;simp at h7) hsum).2 (by simpa using hc3))⟩,hs.sub⟩
end
end
section
def fldAt (q:Pk):Nat→Int
 | 0=>q.id
 | 1=>q.first
 | 2=>q.ack
 | _=>q.frame
def restAt (q:Pk):Nat→List UInt8
 | 0=>midPk q
 | 1=>numsPk q
 | 2=>putL (zz q.ack)++(putL (zz q.frame)++tailPk q)
 | 3=>putL (zz q.frame)++tailPk q
 | _=>tailPk q
theorem decP_kind {bs:List UInt8}{q:Pk}(h:decP bs q):(q.kind=1∧frP q.first∧frP q.ack∧frP q.frame∧q.press.length≤32∧numsPk q=putL (zz q.first)++(putL (zz q.ack)++(putL (zz q.frame)++tailPk q))) ∨
   (q.kind=2∧q.first=0∧q.ack=0∧q.frame=0∧q.press=[]∧q.sum=0):=by
 rcases h.1.2.2.2.2 with k | k
 · exact .inl ⟨k.1,k.2.1,k.2.2.1,k.2.2.2.1,k.2.2.2.2,by rw[numsPk,if_pos k.1]⟩
 · exact .inr ⟨k.1,k.2.1,k.2.2.1,k.2.2.2.1,List.eq_nil_of_length_eq_zero k.2.2.2.2.1,k.2.2.2.2.2⟩
theorem rest_step {bs:List UInt8}{q:Pk}{n i:Nat}(h:decP bs q)(hn:n=if (bs.getD 0 0).toNat=1 then 4 else 1)(hi:i<n) :
   restAt q i=putL (zz (fldAt q i))++restAt q (i+1)∧0≤fldAt q i∧fldAt q i≤1099511627776:=by
 have h0:=(decP_head h).1.1
 have hid:=h.1.2.2.2.1
 rcases decP_kind h with k | k
 · obtain⟨k0,k1,k2,k3,k4,k5⟩:=k
   unfold frP at k1 k2 k3
   rw[if_pos (by omega)]at hn
   rcases (by omega:i=0∨i=1∨i=2∨i=3) with rfl | rfl | rfl | rfl
   · exact⟨rfl,hid.1,hid.2⟩
   · exact⟨k5,by show 0≤q.first;omega,by show q.first≤_;omega⟩
   · exact⟨rfl,by show 0≤q.ack;omega,by show q.ack≤_;omega⟩
   · exact⟨rfl,by show 0≤q.frame;omega,by show q.frame≤_;omega⟩
 · rw[if_neg (by omega)]at hn
   obtain rfl:i=0:=by omega
   exact⟨rfl,hid.1,hid.2⟩
theorem rest_bad {bs X:List UInt8}{n i at' k:Nat}{x er:Int}(hn:n=if (bs.getD 0 0).toNat=1 then 4 else 1)(hi:i<n)(hq:∀ q,decP bs q→X.drop at'=restAt q i)(hg:GetR (X.drop at') x k er)
   (hb:er≠0∨x<0∨1099511627776<x):decO bs=none:=decP_bad λ⟨q,h⟩=>by
 obtain⟨h1,h2,h3⟩:=rest_step h hn hi
 obtain⟨e1,e2,e3⟩:=hg.2.2.2.2 (fldAt q i) (restAt q (i+1)) (by omega) (by omega) (by rw[hq q h,h1])
 omega
section
variable {W w:World}{L:List SP}{n c m:Nat}{ad:Option Addr}{bs:List UInt8}{p:Pk}
theorem refUnpacket_spec (hs:St W w L)(hb:bs.length≤65536)(hc:bs.length≤c)(hp:∀ w',St W w' L→RdB w' ad bs.length bs) :
   Calls Tryz.prog 155 #[.slice ad bs.length c] w λe w'=>∃ (p:Pk) (adP:Option Addr) (cP:Nat) (ok:Bool),e=.returned (.tuple #[.agg (pkC p adP cP).toArray,.bool ok])∧(ok=true→decO bs=some p)∧(ok=false→decO bs=none)∧St W w' (Sl 5 1 adP p.press.length cP (bc p.press)::L):=by
 have hpk0:∀ {w'},St W w' L→decO bs=none→∃ (p:Pk) (adP:Option Addr) (cP:Nat) (ok:Bool),Ending.returned (.tuple #[.agg (pkC pk0 none 0).toArray,.bool false])=.returned (.tuple #[.agg (pkC p adP cP).toArray,.bool ok])∧(ok=true→decO bs=some p)∧(ok=false→decO bs=none)∧St W w' (Sl 5 1 adP p.press.length cP (bc p.press)::L) :=
   λhs hno=>⟨pk0,none,0,false,rfl,λh=>(by cases h),λ_=>hno,hs.sl0 _ _ _⟩
 refine EN Tryz.func155 Tryz.ntmps155 rfl rfl λa ha=>?_
 refine AL 1 ha hs λb2 a w ha hs=>?_
 refine IF 6 ha hs (λhc0 a ha=>?_) λhc0 a ha=>?_
 ·
  have hno:decO bs=none:=decO_none λq hq=>by
    have:=congrArg List.length hq.2.2
    have hm:1≤(midPk q).length:=by rw[midPk,List.length_append];have:=putL_pos (zz q.id);omega
    rw[encPk_len]at this;omega
  refine SA 2 ha hs λa w ha hs=>?_
  refine RT 1 ha hs ?_
  exact hpk0 hs.tail hno
 obtain⟨bb,oo,rfl,_⟩:=(hp _ hs.tail).get (by omega)
 have h7:8≤bs.length:=by omega
 refine RN 5 ha hs λa ha=>?_
 rw[show (bs.length:Int)-4=((bs.length-4:Nat):Int) from by omega]at ha
 refine RN 1 ha hs λa ha=>?_
 obtain⟨X,hX⟩:∃ X,X=(bs.drop 3).take (bs.length-7):=⟨_,rfl⟩
 have hXl:X.length=bs.length-7:=by rw[hX,List.length_take,List.length_drop];omega
 have hr:Rdr W L (cutAd (some ⟨bb,oo,none⟩) 3 c 1) (c-3) X:=⟨by omega,by omega,λw' hw=>by
   rw[hXl,hX]
   exact ((hp w' hw).cutL (lo:=3) (by omega) hc).cutH (by rw[List.length_drop];omega)⟩
 have hq1:∀ q,decP bs q→(q.kind=((bs.getD 0 0).toNat:Int)∧q.from'=((bs.getD 1 0).toNat:Int)∧q.to=((bs.getD 2 0).toNat:Int))∧X=midPk q:=λq h=>by
   rw[hX];exact decP_head h
 rw[show bs.length-4-3=X.length from by omega]at ha
 have hXp:1≤X.length:=by omega
 obtain⟨bx,ox,hbx,_⟩:=(hr.rd _ hs.tail).get (by omega)
 rw[hbx]at ha hr
 generalize c-3=c1 at ha hr
 clear hX
 refine DWC 2 (λw0 w=>Rd w bb oo (bc bs)) [6,7,10,11,13] [0,1,4,5,8,9,3002,3,3006,3007,3010,3011,12,1013,1014] ha hs λa w ha hs hH=>?_
 have hC:Rd w bb oo (bc bs):=(hp _ hs.tail).rd (by omega)
 refine RH 6 ha hs hH hC λa ha=>?_
 refine QH ha (λw hc=>ld1 ha (hc 0 _ (bc_atD (by omega)))) hC λa ha=>?_
 refine QP ha (λw=>ex_convIIs ha Tryz.underlying5 Tryz.underlying3 (i64u8 _)) λa ha=>?_
 refine QH ha (λw hc=>ld1 ha (hc 1 _ (bc_atD (by omega)))) hC λa ha=>?_
 refine QH ha (λw hc=>ex_convIIs ha Tryz.underlying5 Tryz.underlying3 (i64u8 _)) hC λa ha=>?_
 refine QH ha (λw hc=>ld1 ha (hc 2 _ (bc_atD (by omega)))) hC λa ha=>?_
 refine QH ha (λw hc=>ex_convIIs ha Tryz.underlying5 Tryz.underlying3 (i64u8 _)) hC λa ha=>?_
 refine RH 1 ha hs hH hC λa ha=>?_
 refine st_alloc ha rfl hs Ty.t70 rfl λb5 a w ha hs ho=>?_
 clear ho
 replace hC:=hH.at w ((hp _ hs.tail.tail).rd (by omega))
 refine RH 0 ha hs hH hC λa ha=>?_
 refine SA 0 ha hs λa w ha hs=>?_
 refine AL 1 ha hs λb6 a w ha hs=>?_
 refine RN 4 ha hs λa ha=>?_
 refine wp_seq_cut (M:=λa w=>∃ n:Nat,n=(if (bs.getD 0 0).toNat=1 then 4 else 1)∧Fr a 153 [(0,.slice (some ⟨bb,oo,none⟩) bs.length c),(2,pt b2),(4,.slice (some ⟨bx,ox,none⟩) X.length c1),(5,pt b5),(6,pt b6),(7,.int .i64 (0:Nat)),(8,.int .i64 n)]∧St W w (blk b6 303 (ints .i64 4 (λ_=>0))::blk b5 70 (pkC ⟨((bs.getD 0 0).toNat:Int),((bs.getD 1 0).toNat:Int),((bs.getD 2 0).toNat:Int),0,0,0,0,0,[]⟩ none 0)::blk b2 70 (pkC pk0 none 0)::L)) ?_ ?_
 ·
  refine IF 4 ha hs (λhc1 a ha=>?_) λhc1 a ha=>?_
  ·
   refine RN 1 ha hs λa ha=>?_
   exact⟨4,by rw[if_pos (by omega)],ha.keep [0,2,4,5,6,7,8],hs⟩
  refine RN 0 ha hs λa ha=>?_
  exact⟨1,by rw[if_neg (by omega)],ha.keep [0,2,4,5,6,7,8],hs⟩
 clear ha;(try clear hs)
 rintro a w ⟨n,hn,ha,hs⟩
 refine RN 3 ha hs λa ha=>?_
 refine wp_loop_ghost (λμ a w=>∃ (i k:Nat) (g:Nat→Int),(μ=n-i∧i≤n∧k≤X.length∧(∀ j,i≤j→g j=0)∧∀ q,decP bs q→X.drop k=restAt q i∧∀ j,j<i→g j=fldAt q j)∧Fr a 153 [(0,.slice (some ⟨bb,oo,none⟩) bs.length c),(2,pt b2),(4,.slice (some ⟨bx,ox,none⟩) X.length c1),(5,pt b5),(6,pt b6),(7,.int .i64 k),(8,.int .i64 n),(9,.int .i64 i)]∧St W w (blk b6 303 (ints .i64 4 g)::blk b5 70 (pkC ⟨((bs.getD 0 0).toNat:Int),((bs.getD 1 0).toNat:Int),((bs.getD 2 0).toNat:Int),0,0,0,0,0,[]⟩ none 0)::blk b2 70 (pkC pk0 none 0)::L)) (n) (⟨0,0,λ_=>0,⟨rfl,by omega,by omega,λ_ _=>rfl,λq h=>⟨by rw[List.drop_zero];exact (hq1 q h).2,λj hj=>absurd hj (by omega)⟩⟩,ha.keep [0,2,4,5,6,7,8,9],hs⟩) ?_
 clear ha hs
 rintro μ a w ⟨i,k,g,⟨rfl,hi,hk,hg0,hqi⟩,ha,hs⟩
 refine IF 5 ha hs (λhc2 a ha=>?_) λhc2 a ha=>?_
 ·
  have hin:i<n:=by omega
  have hi4:i<4:=by rw[hn]at hin;split at hin <;> omega
  have hrk:=hr.cut hk
  have hlk:=hrk.len
  refine RN 5 ha hs λa ha=>?_
  rw[show X.length-k=(X.drop k).length from by simp]at ha
  refine CL3 0 ha hs (refGet_spec (bs:=X.drop k) hs (by omega) (λw' hw=>hrk.rd w' hw.tail.tail.tail)) λx m er a w ha ⟨hgt,hs⟩=>?_
  refine BY 12 ha hs (λhg2 a ha=>?_) λhg2 a ha=>?_
  ·
   refine SA 10 ha hs λa w ha hs=>?_
   refine RT 1 ha hs ?_
   have hno:=rest_bad hn hin (λq h=>(hqi q h).1) hgt (.inl (by simpa using hg2))
   exact hpk0 hs.tail.tail.tail hno
  refine BY 4 ha hs (λhg6 a ha=>?_) λhg6 a ha=>?_
  ·
   refine SA 6 ha hs λa w ha hs=>?_
   refine RT 1 ha hs ?_
   have hno:=rest_bad hn hin (λq h=>(hqi q h).1) hgt (.inr (.inl (by simpa using hg6)))
   exact hpk0 hs.tail.tail.tail hno
  refine IF 3 ha hs (λhc3 a ha=>?_) λhc3 a ha=>?_
  ·
   refine SA 2 ha hs λa w ha hs=>?_
   refine RT 1 ha hs ?_
   have hno:=rest_bad hn hin (λq h=>(hqi q h).1) hgt (.inr (.inr (by simpa using hc3)))
   exact hpk0 hs.tail.tail.tail hno
  refine ST 4 ha hs (λa w ha hs=>?_) (hlt:=(by rw[ints_len];omega))
  rw[ints_set,show (λj=>if j=i then x else g j)=upd g i x from rfl]at hs
  refine RN 0 ha hs λa ha=>?_
  have hmk:=(hgt.2.2.1 (by simpa using hg2)).2
  rw[List.length_drop]at hmk
  refine RN 7 ha hs λa ha=>?_
  refine⟨n-(i+1),by omega,i+1,k+m,upd g i x,⟨rfl,by omega,?_,?_,λq h=>?_⟩,ha.keep [0,2,4,5,6,7,8,9],hs⟩
  · have:=(hgt.2.2.1 (by simpa using hg2)).2
    rw[List.length_drop]at this;omega
  · intro j hj
    rw[upd,if_neg (by omega)];exact hg0 j (by omega)
  · obtain⟨h1,h2⟩:=hqi q h
    obtain⟨h3,h4,h5⟩:=rest_step h hn hin
    obtain⟨e1,e2,e3⟩:=hgt.2.2.2.2 (fldAt q i) (restAt q (i+1)) (by omega) (by omega) (by rw[h1,h3])
    refine⟨by rw[← List.drop_drop,h1,h3,e2,List.drop_left],λj hj=>?_⟩
    by_cases hji:j=i
    · subst hji;rw[upd,if_pos rfl,e1]
    · rw[upd,if_neg hji];exact h2 j (by omega)
 obtain rfl:i=n:=by omega
 rw[show pkC ⟨((bs.getD 0 0).toNat:Int),((bs.getD 1 0).toNat:Int),((bs.getD 2 0).toNat:Int),0,0,0,0,0,[]⟩ none 0=[.int .i64 ((bs.getD 0 0).toNat:Int),.int .i64 ((bs.getD 1 0).toNat:Int),.int .i64 ((bs.getD 2 0).toNat:Int),.int .i64 0,.int .i64 0,.slice none 0 0,.int .i64 0,.int .i64 0,.int .u32 (0:Nat)] from rfl]at hs
 refine DWC 1 (λw0 w'=>Rd w' b6 0 (ints .i64 4 g)) [3,5,7,9,10,11,12,13] [0,2,4,6,3001,8,3003,3005,3007,1009,1010,1011,1012,1013,14,1015] ha hs λa w ha hs hH=>?_
 have hC:=hH.at w hs.rdAll
 refine RH 4 ha hs hH hC λa ha=>?_
 refine QH ha (λw hc=>ld1 ha (hc 0 _ (ints_get g (by decide)))) hC λa ha=>?_
 refine RH 1 ha hs hH hC λa ha=>?_
 refine QH ha (λw hc=>ld1 ha (hc 1 _ (ints_get g (by decide)))) hC λa ha=>?_
 refine QH ha (λw hc=>ld1 ha (hc 2 _ (ints_get g (by decide)))) hC λa ha=>?_
 refine QH ha (λw hc=>ld1 ha (hc 3 _ (ints_get g (by decide)))) hC λa ha=>?_
 refine RH 0 ha hs hH hC λa ha=>?_
 refine ST 0 ha hs (λa w ha hs=>?_)
 replace hC:=hH.at w hs.rdAll
 refine RH 1 ha hs hH hC λa ha=>?_
 refine ST 0 ha hs (λa w ha hs=>?_)
 replace hC:=hH.at w hs.rdAll
 refine RH 1 ha hs hH hC λa ha=>?_
 refine ST 0 ha hs (λa w ha hs=>?_)
 replace hC:=hH.at w hs.rdAll
 refine RH 1 ha hs hH hC λa ha=>?_
 refine ST 0 ha hs (λa w ha hs=>?_)
 refine RN 0 ha hs λa ha=>?_
 refine wp_seq_cut (M:=λa w=>∃ (p:Pk) (adP:Option Addr) (cP:Nat),p.sum<4294967296∧(∀ q,decP bs q→p=q)∧Fr a 153 [(0,.slice (some ⟨bb,oo,none⟩) bs.length c),(2,pt b2),(5,pt b5)]∧St W w (blk b5 70 (pkC p adP cP)::Sl 5 1 adP p.press.length cP (bc p.press)::blk b2 70 (pkC pk0 none 0)::L)) ?_ ?_
 ·
  refine IF 4 ha hs (λhc4 a ha=>?_) λhc4 a ha=>?_
  ·
   have hk1:∀ q,decP bs q→X.drop k=tailPk q∧q.press.length≤32:=λq h=>by
     rw[if_pos (by omega)]at hn
     refine⟨by rw[(hqi q h).1,hn];rfl,?_⟩
     rcases decP_kind h with k | k
     · exact k.2.2.2.2.1
     · rw[k.2.2.2.2.1];simp
   refine IF 7 ha hs (λhc5 a ha=>?_) λhc5 a ha=>?_
   ·
    have hno:decO bs=none:=decP_bad λ⟨q,h⟩=>by
      have:=congrArg List.length (hk1 q h).1
      rw[tailPk,List.length_append,fourL_len,List.length_drop]at this
      omega
    refine SA 2 ha hs λa w ha hs=>?_
    refine RT 1 ha hs ?_
    exact hpk0 hs.tail.tail.tail hno
   have hk4:k+4≤X.length:=by omega
   refine RN 3 ha hs λa ha=>?_
   refine wp_loop_ghost (λμ a w=>∃ (j:Nat),(μ=4-j∧j≤4)∧Fr a 153 [(0,.slice (some ⟨bb,oo,none⟩) bs.length c),(2,pt b2),(4,.slice (some ⟨bx,ox,none⟩) X.length c1),(5,pt b5),(7,.int .i64 k),(13,.int .i64 j)]∧St W w (blk b5 70 [.int .i64 ((bs.getD 0 0).toNat:Int),.int .i64 ((bs.getD 1 0).toNat:Int),.int .i64 ((bs.getD 2 0).toNat:Int),.int .i64 (g 0),.int .i64 (g 1),.slice none 0 0,.int .i64 (g 2),.int .i64 (g 3),.int .u32 (fourB ((X.drop k).take j):Nat)]::blk b2 70 (pkC pk0 none 0)::L)) (4) (⟨0,⟨rfl,by omega⟩,ha.keep [0,2,4,5,7,13],(hs.perm (List.Perm.swap _ _ _)).tail⟩) ?_
   clear ha hs
   rintro μ a w ⟨j,⟨rfl,hj⟩,ha,hs⟩
   refine IF 4 ha hs (λhc6 a ha=>?_) λhc6 a ha=>?_
   ·
    have hj4:j<4:=by omega
    have hkj:k+j<X.length:=by omega
    have hbd:=fourB_bd ((X.drop k).take j) 3 (by rw[List.length_take];omega)
    rw[show (256:Nat) ^ 3=16777216 from by decide]at hbd
    have hjl:j<(X.drop k).length:=by rw[List.length_drop];omega
    have hft:=fourB_take hjl
    rw[show (X.drop k)[j]=X[k+j] from List.getElem_drop ..]at hft
    have hb8:=u8_lt X[k+j]
    refine DWC 1 (λw0 w'=>w'.cell? ⟨b5,8,none⟩=some (.int .u32 (fourB ((X.drop k).take j):Nat))∧Rd w' bx ox (bc X)) [8,9] [0,3,4,5,6,7,3001,2,1008,1009,10,11,1012] ha hs λa w ha hs hH=>?_
    have hC:=hH.at w ⟨hs.rd1 rfl,(hr.rd _ hs.tail.tail).rd (by omega)⟩
    refine RH 6 ha hs hH hC λa ha=>?_
    refine QH ha (λw hc=>ld1 ha (hc.1)) hC λa ha=>?_
    refine RH 1 ha hs hH hC λa ha=>?_
    rw[show IntKind.u32.wrap (((fourB ((X.drop k).take j):Nat):Int)*256)=((fourB ((X.drop k).take j)*256:Nat):Int) from by rw[wrap_u32];omega]at ha
    refine SS ha (ld1 ha (hC.2 (k+j) _ (bc_at hkj))) λa ha=>?_
    refine RH 0 ha hs hH hC λa ha=>?_
    refine SX 0 ha hs (by rw[wrap_u32];omega) λa ha=>?_
    refine RH 1 ha hs hH hC λa ha=>?_
    rw[show IntKind.u32.wrap (((fourB ((X.drop k).take j)*256:Nat):Int)+(X[k+j].toNat:Int))=((fourB ((X.drop k).take (j+1)):Nat):Int) from by rw[wrap_u32,hft];omega]at ha
    refine RH 1 ha hs hH hC λa ha=>?_
    refine ST 0 ha hs (λa w ha hs=>?_)
    refine RN 3 ha hs λa ha=>?_
    exact⟨4-(j+1),by omega,j+1,⟨rfl,by omega⟩,ha.keep [0,2,4,5,7,13],hs⟩
   obtain rfl:j=4:=by omega
   have hr4:=hr.cut hk4
   have hl4:=hr4.len
   have hsum:=fourB_bd ((X.drop k).take 4) 4 (by rw[List.length_take];omega)
   rw[show (256:Nat) ^ 4=4294967296 from by decide]at hsum
   have hk2:∀ q,decP bs q→q.sum=fourB ((X.drop k).take 4)∧X.drop (k+4)=putL (zz (q.press.length:Int))++runsL q.press 0∧q.press.length≤32:=λq h=>by
     obtain⟨h1,h2⟩:=hk1 q h
     rw[← List.drop_drop,h1,tailPk]
     exact⟨(fourB_four h.2.1).symm,rfl,h2⟩
   generalize fourB ((X.drop k).take 4)=sm at hs hsum hk2
   refine RN 8 ha hs λa ha=>?_
   rw[show X.length-(k+4)=(X.drop (k+4)).length from by simp]at ha
   refine CL3 0 ha hs (refGet_spec (bs:=X.drop (k+4)) hs (by omega) (λw' hw=>hr4.rd w' hw.tail.tail)) λx m er a w ha ⟨hgt,hs⟩=>?_
   refine BY 12 ha hs (λhg2 a ha=>?_) λhg2 a ha=>?_
   ·
    refine SA 10 ha hs λa w ha hs=>?_
    refine RT 1 ha hs ?_
    have hno:decO bs=none:=decP_bad λ⟨q,h⟩=>by
      obtain⟨_,e2,h32⟩:=hk2 q h
      have:=(hgt.2.2.2.2 (q.press.length:Int) _ (by omega) (by omega) e2).2.2
      simp[this]at hg2
    exact hpk0 hs.tail.tail hno
   refine BY 4 ha hs (λhg6 a ha=>?_) λhg6 a ha=>?_
   ·
    refine SA 6 ha hs λa w ha hs=>?_
    refine RT 1 ha hs ?_
    have hno:decO bs=none:=decP_bad λ⟨q,h⟩=>by
      obtain⟨_,e2,h32⟩:=hk2 q h
      have:=(hgt.2.2.2.2 (q.press.length:Int) _ (by omega) (by omega) e2).1
      omega
    exact hpk0 hs.tail.tail hno
   refine IF 3 ha hs (λhc7 a ha=>?_) λhc7 a ha=>?_
   ·
    refine SA 2 ha hs λa w ha hs=>?_
    refine RT 1 ha hs ?_
    have hno:decO bs=none:=decP_bad λ⟨q,h⟩=>by
      obtain⟨_,e2,h32⟩:=hk2 q h
      have:=(hgt.2.2.2.2 (q.press.length:Int) _ (by omega) (by omega) e2).1
      omega
    exact hpk0 hs.tail.tail hno
   refine RN 1 ha hs λa ha=>?_
   have hml:=(hgt.2.2.1 (by simpa using hg2)).2
   rw[List.length_drop]at hml
   have hr5:=hr.cut (k:=k+4+m) (by omega)
   refine RN 5 ha hs λa ha=>?_
   rw[show X.length-(k+4+m)=(X.drop (k+4+m)).length from by simp]at ha
   refine CLX 0 ha hs (refUnruns_spec (m:=32) (bs:=X.drop (k+4+m)) hs hr5.len hr5.cap (by omega) (λw' hw=>hr5.rd w' hw.tail.tail)) ?_
   clear ha hs
   rintro e w ⟨out,adO,cO,e2,rfl,hun,hs⟩
   refine⟨_,rfl,λa ha=>?_⟩
   refine RN 5 ha hs λa ha=>?_
   have hk3:∀ q,decP bs q→out=q.press∧e2=0:=λq h=>by
     obtain⟨_,e2,h32⟩:=hk2 q h
     obtain⟨f1,f2,f3⟩:=hgt.2.2.2.2 (q.press.length:Int) _ (by omega) (by omega) e2
     refine hun.2.2 q.press h32 ?_
     rw[← List.drop_drop,e2,f2,List.drop_left]
   refine IF 4 ha hs (λhc8 a ha=>?_) λhc8 a ha=>?_
   ·
    refine SA 2 ha hs λa w ha hs=>?_
    refine RT 1 ha hs ?_
    have hno:decO bs=none:=decP_bad λ⟨q,h⟩=>by
      have:=(hk3 q h).2
      omega
    exact hpk0 hs.tail.tail.tail hno
   refine ST 2 ha hs (λa w ha hs=>?_)
   refine RN 0 ha hs λa ha=>?_
   refine⟨⟨((bs.getD 0 0).toNat:Int),((bs.getD 1 0).toNat:Int),((bs.getD 2 0).toNat:Int),g 0,g 1,g 2,g 3,sm,out⟩,adO,cO,hsum,λq h=>?_,ha.keep [0,2,5],hs⟩
   obtain⟨h1,h2,h3⟩:=(hq1 q h).1
   have h4:=(hqi q h).2
   rw[if_pos (by omega)]at hn
   rw[h4 0 (by omega),h4 1 (by omega),h4 2 (by omega),h4 3 (by omega),← h1,← h2,← h3,(hk3 q h).1,← (hk2 q h).1]
   rfl
  refine RN 0 ha hs λa ha=>?_
  refine⟨⟨((bs.getD 0 0).toNat:Int),((bs.getD 1 0).toNat:Int),((bs.getD 2 0).toNat:Int),g 0,g 1,g 2,g 3,0,[]⟩,none,0,(by show 0<4294967296;decide),λq h=>?_,ha.keep [0,2,5],(((hs.perm (List.Perm.swap _ _ _)).tail.sl0 5 1 none)).perm (List.Perm.swap _ _ _)⟩
  obtain⟨h1,h2,h3⟩:=(hq1 q h).1
  have h4:=(hqi q h).2
  rw[if_neg (by omega)]at hn
  rcases decP_kind h with k | k
  · omega
  · obtain⟨k0,k1,k2,k3,k4,k5⟩:=k
    have h5:=h4 0 (by omega)
    have h6:=hg0 1 (by omega)
    have h7:=hg0 2 (by omega)
    have h8:=hg0 3 (by omega)
    rw[h5,h6,h7,h8,← h1,← h2,← h3]
    show Pk.mk q.kind q.from' q.to q.id 0 0 0 0 []=q
    cases q
    simp_all
 clear ha;(try clear hs)
 rintro a w ⟨p,adP,cP,hsum,hqp,ha,hs⟩
 refine DWC 1 (λw0 w'=>Rd w' b5 0 (pkC p adP cP)∧RdB w' (some ⟨bb,oo,none⟩) bs.length bs) [1,2,3,5,6,7] [4,3000,3001,3005,1002,2003,3006,1007,8] ha hs λa w ha hs hH=>?_
 have hC:=hH.at w ⟨hs.rdAll,hp _ hs.tail.tail.tail⟩
 refine RH 1 ha hs hH hC λa ha=>?_
 refine QH ha (λw hc=>ex_loadN ha Tryz.underlying70 rfl Ty.t70 (hc.1)) hC λa ha=>?_
 refine QH ha (λw hc=>ex_loadN ha Tryz.underlying70 rfl Ty.t70 (hc.1)) hC λa ha=>?_
 refine QH ha (λw hc=>ex_toString ha Tryz.underlying22 Tryz.underlying5 Tryz.underlying9 (hc.2)) hC λa ha=>?_
 refine RH 0 ha hs hH hC λa ha=>?_
 refine CL2 0 ha hs (refPacket_spec (p:=p) hs hsum (λw' hw=>hw.rdB adP p.press rfl rfl)) λadE cE a w ha hs=>?_
 replace hC:=hH.at w ⟨hs.rdAll,hp _ hs.tail.tail.tail.tail⟩
 refine RH 0 ha hs hH hC λa ha=>?_
 refine DN [(3,[3006,1007,8]),(7,[1003,3006,8])] (by kernel_rfl) rfl ⟨⟨_,rfl,?_⟩,⟨_,rfl,?_⟩,trivial⟩
 ·
  refine RH 0 ha hs hH hC λa ha=>?_
  refine SS ha (ex_toString ha Tryz.underlying22 Tryz.underlying5 Tryz.underlying9 ((hs.rdB adE (encO p) rfl rfl))) λa ha=>?_
  refine RH 0 ha hs hH hC λa ha=>?_
  refine QH ha (λw hc=>ex_eqlS ha) hC λa ha=>?_
  refine RH 0 ha hs hH hC λa ha=>?_
  refine SA 0 ha hs λa w ha hs=>?_
  replace hC:=hH.at w ⟨hs.rdAll,hp _ hs.tail.tail.tail.tail⟩
  refine RH 1 ha hs hH hC λa ha=>?_
  refine RT 0 ha hs ?_
  refine⟨p,adP,cP,_,rfl,λh=>?_,λh=>?_,hs.sub⟩
  · rw[str_beq]at h
    exact decO_some ((decP_iff (λe=>by rw[e]at h7;simp at h7) hsum).2 (by simpa using h))
  · refine decP_bad λ⟨q,hd⟩=>?_
    have e:encO p=bs:=by rw[hqp q hd,encO,if_pos hd.1];exact hd.2.2
    rw[e,str_beq]at h
    simp at h
 refine RH 0 ha hs hH hC λa ha=>?_
 refine SA 0 ha hs λa w ha hs=>?_
 replace hC:=hH.at w ⟨hs.rdAll,hp _ hs.tail.tail.tail.tail⟩
 refine RH 0 ha hs hH hC λa ha=>?_
 refine SS ha (ex_toString ha Tryz.underlying22 Tryz.underlying5 Tryz.underlying9 ((hs.rdB adE (encO p) rfl rfl))) λa ha=>?_
 refine RH 0 ha hs hH hC λa ha=>?_
 refine QH ha (λw hc=>ex_eqlS ha) hC λa ha=>?_
 refine RH 1 ha hs hH hC λa ha=>?_
 refine RT 0 ha hs ?_
 refine⟨p,adP,cP,_,rfl,λh=>?_,λh=>?_,hs.sub⟩
 · rw[str_beq]at h
   exact decO_some ((decP_iff (λe=>by rw[e]at h7;simp at h7) hsum).2 (by simpa using h))
 · refine decP_bad λ⟨q,hd⟩=>?_
   have e:encO p=bs:=by rw[hqp q hd,encO,if_pos hd.1];exact hd.2.2
   rw[e,str_beq]at h
   simp at h
end
end
section
section
variable {W w:World}{L:List SP}{c:Nat}{ad:Option Addr}{g:Nat→Int}
theorem state_encode (hs:St W w L):Calls Tryz.prog 91 #[.agg (ints .i32 32 g).toArray] w λe w'=>∃ ad c,e=.returned (.slice ad 128 c)∧St W w' (Sl 5 1 ad 128 c (bc (gameB g))::L):=by
 refine EN Tryz.func91 Tryz.ntmps91 rfl rfl λa ha=>?_
 refine BX 1 ha hs λb1 a w ha hs=>?_
 refine RN 7 ha hs λa ha=>?_
 refine wp_loop_ghost (λμ a w=>∃ (i:Nat) (ad:Option Addr) (c:Nat),(μ=32-i∧i≤32)∧Fr a 16 [(3,.slice ad (gameBn g i).length c),(6,.agg (ints .i32 32 g).toArray),(7,.int .i64 i)]∧St W w (Sl 5 1 ad (gameBn g i).length c (bc (gameBn g i))::L)) (32) (⟨0,none,0,⟨rfl,by omega⟩,ha.keep [3,6,7],hs.tail.sl0 5 1 none⟩) ?_
 clear ha hs
 rintro μ a w ⟨i,ad,c,⟨rfl,hi⟩,ha,hs⟩
 refine IF 3 ha hs (λhc0 a ha=>?_) λhc0 a ha=>?_
 ·
  have hi32:i<32:=by omega
  have hgl:=gameBn_len g i
  refine RN 2 ha hs λa ha=>?_
  refine SS ha (ex_index1 ha Tryz.underlying116 Tryz.underlying21 rfl Ty.t21 (by omega) (ints_get g hi32)) λa ha=>?_
  refine CL1 3 ha hs (word_put hs) λad2 a w ha hs=>?_
  refine RN 0 ha hs λa ha=>?_
  refine st_appendT ha rfl hs Tryz.underlying22 Ty.t5 rfl rfl (by decide) (λh0=>(hs.rdB ad2 (fourL (unI (g i))) rfl rfl).get h0) (by rw[bc_len];rfl) (bc_one _) (by rw[fourL_len];omega) λad13 c13 a w ha hs=>?_
  rw[← bc_app,← gameBn_succ]at hs
  rw[show (gameBn g i).length+(fourL (unI (g i))).length=(gameBn g (i+1)).length from by rw[gameBn_len,gameBn_len,fourL_len];omega]at ha hs
  refine RN 3 ha hs λa ha=>?_
  exact⟨32-(i+1),by omega,i+1,_,_,⟨rfl,by omega⟩,ha.keep [3,6,7],hs.sub⟩
 obtain rfl:i=32:=by omega
 rw[show (gameBn g 32).length=128 from gameBn_len g 32]at ha hs
 refine RT 3 ha hs ?_
 exact⟨_,_,rfl,hs⟩
theorem state_sum (hs:St W w L):Calls Tryz.prog 175 #[.agg (ints .i32 32 g).toArray] w λe w'=>e=.returned (.int .u32 (crcSum (gameB g)))∧St W w' L:=by
 refine EN Tryz.func175 Tryz.ntmps175 rfl rfl λa ha=>?_
 refine BX 1 ha hs λb1 a w ha hs=>?_
 refine CL2 3 ha hs (state_encode hs) λad c a w ha hs=>?_
 rw[show 128=(gameB g).length from (gameB_len g).symm]at ha hs
 refine CL 0 ha hs (crc_sum hs (by rw[gameB_len];decide) (λw' hw=>hw.rdB ad (gameB g) rfl rfl)) λa w ha hs=>?_
 refine RT 1 ha hs ?_
 exact⟨rfl,hs.sub⟩
theorem refBytes_spec (hs:St W w L):Calls Tryz.prog 136 #[.agg (ints .i32 32 g).toArray] w λe w'=>∃ ad c,e=.returned (.slice ad 128 c)∧St W w' (Sl 5 1 ad 128 c (bc (gameB g))::L):=by
 refine EN Tryz.func136 Tryz.ntmps136 rfl rfl λa ha=>?_
 refine BX 1 ha hs λb1 a w ha hs=>?_
 refine RN 6 ha hs λa ha=>?_
 refine wp_loop_ghost (λμ a w=>∃ (i:Nat) (ad:Option Addr) (c:Nat),(μ=32-i∧i≤32)∧Fr a 17 [(1,pt b1),(3,.slice ad (gameBn g i).length c),(4,.int .i64 i)]∧St W w (Sl 5 1 ad (gameBn g i).length c (bc (gameBn g i))::blk b1 63 (ints .i32 32 g)::L)) (32) (⟨0,none,0,⟨rfl,by omega⟩,ha.keep [1,3,4],hs.sl0 5 1 none⟩) ?_
 clear ha hs
 rintro μ a w ⟨i,ad,c,⟨rfl,hi⟩,ha,hs⟩
 refine IF 4 ha hs (λhc0 a ha=>?_) λhc0 a ha=>?_
 ·
  have hi32:i<32:=by omega
  have hgl:=gameBn_len g i
  refine RN 4 ha hs λa ha=>?_
  refine SS ha (ld1 ha (hs.rd1 (b:=b1) (ints_get g hi32))) λa ha=>?_
  refine RN 0 ha hs λa ha=>?_
  refine SS ha (ex_convII ha Tryz.underlying21 Tryz.underlying68) λa ha=>?_
  rw[wrap_un]at ha
  refine CL1 0 ha hs (refFour_spec hs) λad2 a w ha hs=>?_
  refine RN 0 ha hs λa ha=>?_
  refine st_appendT ha rfl hs Tryz.underlying22 Ty.t5 rfl rfl (by decide) (λh0=>(hs.rdB ad2 (fourL (unI (g i))) rfl rfl).get h0) (by rw[bc_len];rfl) (bc_one _) (by rw[fourL_len];omega) λad15 c15 a w ha hs=>?_
  rw[← bc_app,← gameBn_succ]at hs
  rw[show (gameBn g i).length+(fourL (unI (g i))).length=(gameBn g (i+1)).length from by rw[gameBn_len,gameBn_len,fourL_len];omega]at ha hs
  refine RN 4 ha hs λa ha=>?_
  exact⟨32-(i+1),by omega,i+1,_,_,⟨rfl,by omega⟩,ha.keep [1,3,4],hs.sub⟩
 obtain rfl:i=32:=by omega
 rw[show (gameBn g 32).length=128 from gameBn_len g 32]at ha hs
 refine RT 3 ha hs ?_
 exact⟨_,_,rfl,(hs.perm (List.Perm.swap _ _ _)).tail⟩
theorem refSumOf_spec (hs:St W w L):Calls Tryz.prog 135 #[.agg (ints .i32 32 g).toArray] w λe w'=>e=.returned (.int .u32 (crcSum (gameB g)))∧St W w' L:=by
 refine EN Tryz.func135 Tryz.ntmps135 rfl rfl λa ha=>?_
 refine BX 1 ha hs λb1 a w ha hs=>?_
 refine CL2 3 ha hs (refBytes_spec hs) λad c a w ha hs=>?_
 rw[show 128=(gameB g).length from (gameB_len g).symm]at ha hs
 refine CL 0 ha hs (refSum_spec hs (by rw[gameB_len];decide) (λw' hw=>hw.rdB ad (gameB g) rfl rfl)) λa w ha hs=>?_
 refine RT 1 ha hs ?_
 exact⟨rfl,hs.sub⟩
end
end
section
def putLn (l:List UInt8)(f:Nat)(b:List UInt8):List UInt8:=if l.length<f then l else l++(b.drop (l.length-f)).take (1000-l.length)
theorem putLn_len {l:List UInt8}{f:Nat}{b:List UInt8}(h:l.length≤1000):l.length≤(putLn l f b).length∧(putLn l f b).length≤1000:=by
 unfold putLn
 split
 · omega
 · rw[List.length_append,List.length_take];omega
theorem putLn_add {l b:List UInt8}{f i:Nat}(hf:f≤l.length)(hi:i<b.length)(h1:l.length-f≤i)(h2:l.length+(i-(l.length-f))<1000) :
   l++(b.drop (l.length-f)).take (i+1-(l.length-f))=(l++(b.drop (l.length-f)).take (i-(l.length-f)))++[b[i]]:=by
 rw[show i+1-(l.length-f)=(i-(l.length-f))+1 from by omega,List.append_assoc]
 congr 1
 rw[List.take_succ_eq_append_getElem (by rw[List.length_drop];omega)]
 congr 2
 rw[List.getElem_drop]
 congr 1
 omega
def frontN (ls:List (List UInt8)):Nat→Nat
 | 0=>(ls.headD []).length
 | i+1=>min (frontN ls i) (ls.getD i []).length
def frontL (ls:List (List UInt8)):Nat:=frontN ls ls.length
theorem frontN_one (ls:List (List UInt8)):frontN ls 1=frontN ls 0:=by
 rw[frontN,frontN]
 cases ls <;> simp[frontN]
theorem frontN_le {ls:List (List UInt8)}:∀ {i j:Nat},j<i→frontN ls i≤(ls.getD j []).length
 | 0,_,h=>absurd h (by omega)
 | i+1,j,h=>by
   rw[frontN]
   by_cases hj:j=i
   · subst hj;exact Nat.min_le_right _ _
   · exact Nat.le_trans (Nat.min_le_left _ _) (frontN_le (by omega))
theorem frontL_le {ls:List (List UInt8)}{l:List UInt8}(h:l∈ls):frontL ls≤l.length:=by
 obtain⟨i,hi,rfl⟩:=List.getElem_of_mem h
 have:=frontN_le (ls:=ls) (i:=ls.length) hi
 rwa [List.getD_eq_getElem?_getD,List.getElem?_eq_getElem hi]at this
theorem frontN_some (ls:List (List UInt8)):∀ i,i≤ls.length→ls≠[]→∃ l∈ls,frontN ls i=l.length
 | 0,_,h=>by
   cases ls with
   | nil=>exact absurd rfl h
   | cons a r=>exact⟨a,by simp,rfl⟩
 | i+1,hi,h=>by
   obtain⟨l,hl,e⟩:=frontN_some ls i (by omega) h
   rw[frontN]
   rcases Nat.le_total (frontN ls i) (ls.getD i []).length with h1 | h1
   · rw[Nat.min_eq_left h1];exact⟨l,hl,e⟩
   · rw[Nat.min_eq_right h1,List.getD_eq_getElem?_getD,List.getElem?_eq_getElem (by omega)]
     exact⟨ls[i],List.getElem_mem _,rfl⟩
theorem frontL_some {ls:List (List UInt8)}(h:ls≠[]):∃ l∈ls,frontL ls=l.length:=frontN_some ls _ (Nat.le_refl _) h
theorem frontL_ge {ls:List (List UInt8)}{n:Nat}(h:ls≠[])(hn:∀ l∈ls,n≤l.length):n≤frontL ls:=by
 obtain⟨l,hl,e⟩:=frontL_some h
 rw[e];exact hn l hl
def jointN (ls:List (List UInt8))(f i:Nat):List UInt8:=(ls.take i).map (·.getD f 0)
def jointL (ls:List (List UInt8))(f:Nat):List UInt8:=ls.map (·.getD f 0)
theorem jointN_all (ls:List (List UInt8))(f:Nat):jointN ls f ls.length=jointL ls f:=by rw[jointN,List.take_length,jointL]
theorem jointN_succ {ls:List (List UInt8)}{f i:Nat}(h:i<ls.length):jointN ls f (i+1)=jointN ls f i++[ls[i].getD f 0]:=by
 rw[jointN,List.take_succ_eq_append_getElem h,List.map_append];rfl
theorem jointN_len {ls:List (List UInt8)}{f i:Nat}(h:i≤ls.length):(jointN ls f i).length=i:=by
 rw[jointN,List.length_map,List.length_take];omega
theorem jointL_len (ls:List (List UInt8))(f:Nat):(jointL ls f).length=ls.length:=by rw[jointL,List.length_map]
structure Gs where
 kind:Int
 order:Int
 table:List UInt8
def mayGs (b:Gs):Prop:=(b.kind=1∧b.order=0∧b.table.length=0)∨(b.kind=2∧0≤b.order∧b.order≤3∧b.table.length=0)∨(b.kind=3∧b.order=0∧1≤b.table.length∧b.table.length≤1000)
instance (b:Gs):Decidable (mayGs b):=inferInstanceAs (Decidable (_∨_))
def endsB (o:Nat)(past:List UInt8)(i:Nat):Bool:=(past.drop (i-o)).take o==past.drop (past.length-o)
def wtN (o:Nat)(past:List UInt8):Nat→Nat→Int
 | 0=>λ_=>0
 | i+1=>if o≤i∧endsB o past i=true then upd (wtN o past i) (past.getD i 0).toNat (wtN o past i (past.getD i 0).toNat+1) else wtN o past i
theorem wtN_low {o:Nat}{past:List UInt8}:∀ {i:Nat},i≤o→wtN o past i=λ_=>0
 | 0,_=>rfl
 | i+1,h=>by rw[wtN,if_neg (by omega),wtN_low (by omega)]
theorem wtN_bd (o:Nat)(past:List UInt8):∀ (i v:Nat),0≤wtN o past i v∧wtN o past i v≤i
 | 0,v=>⟨Int.le_refl _,Int.le_refl _⟩
 | i+1,v=>by
   have h:=wtN_bd o past i v
   have h2:=wtN_bd o past i (past.getD i 0).toNat
   rw[wtN]
   split
   · unfold upd
     split <;> omega
   · omega
def wtL (b:Gs)(past:List UInt8):Nat→Int:=if b.kind=2 then wtN b.order.toNat past past.length else λ_=>0
def lastB (past:List UInt8):UInt8:=past.getLastD 0
def bestN (w:Nat→Int)(last:Nat):Nat→Nat
 | 0=>last
 | i+1=>if w (bestN w last i)<w i then i else bestN w last i
theorem bestN_lt {w:Nat→Int}{last:Nat}(hl:last<256):∀ {i:Nat},i≤256→bestN w last i<256
 | 0,_=>hl
 | i+1,h=>by
   rw[bestN]
   split
   · omega
   · exact bestN_lt hl (by omega)
theorem bestN_last {w:Nat→Int}{last:Nat}:∀ {i:Nat},(∀ v,v<i→w v≤w last)→bestN w last i=last
 | 0,_=>rfl
 | i+1,h=>by
   have ih:=bestN_last (i:=i) λv hv=>h v (by omega)
   rw[bestN,ih,if_neg]
   have:=h i (by omega)
   omega
theorem bestN_of {w:Nat→Int}{last x:Nat}(h0:w last<w x)(h1:∀ v,v<x→w v<w x):∀ {i:Nat},(∀ v,v<i→w v≤w x)→(i≤x→w (bestN w last i)<w x)∧(x<i→bestN w last i=x)
 | 0,_=>⟨λ_=>h0,λh=>absurd h (by omega)⟩
 | i+1,h=>by
   have ih:=bestN_of h0 h1 (i:=i) λv hv=>h v (by omega)
   rw[bestN]
   refine⟨λhi=>?_,λhi=>?_⟩
   · have:=ih.1 (by omega)
     have:=h1 i (by omega)
     split <;> assumption
   · by_cases hx:x=i
     · subst hx
       rw[if_pos (ih.1 (by omega))]
     · rw[ih.2 (by omega),if_neg]
       have:=h i (by omega)
       omega
def firstB (b:Gs)(past:List UInt8):UInt8:=if b.kind=3 then b.table.getD (past.length%b.table.length) 0 else UInt8.ofNat (bestN (wtL b past) (lastB past).toNat 256)
def chainN (b:Gs)(past:List UInt8):Nat→List UInt8
 | 0=>past
 | i+1=>chainN b past i++[firstB b (chainN b past i)]
theorem chainN_len (b:Gs)(past:List UInt8):∀ i,(chainN b past i).length=past.length+i
 | 0=>rfl
 | i+1=>by rw[chainN,List.length_append,chainN_len b past i];rfl
theorem chainN_take (b:Gs)(past:List UInt8):∀ i,(chainN b past i).take past.length=past
 | 0=>List.take_length
 | i+1=>by
   rw[chainN,List.take_append_of_le_length (by rw[chainN_len];omega),chainN_take b past i]
def chainB (b:Gs)(past:List UInt8)(n:Nat):List UInt8:=(chainN b past n).drop past.length
theorem chainB_len (b:Gs)(past:List UInt8)(n:Nat):(chainB b past n).length=n:=by rw[chainB,List.length_drop,chainN_len];omega
theorem chain_all (b:Gs)(past:List UInt8)(n:Nat):past++chainB b past n=chainN b past n:=by
 conv=>lhs;lhs;rw[← chainN_take b past n]
 rw[chainB,List.take_append_drop]
theorem chainB_succ (b:Gs)(past:List UInt8)(n:Nat):chainB b past (n+1)=chainB b past n++[firstB b (past++chainB b past n)]:=by
 rw[chain_all,chainB,chainN,List.drop_append_of_le_length (by rw[chainN_len];omega)];rfl
def fullB (b:Gs)(past:List UInt8)(to:Nat):List UInt8:=chainN b past (to-past.length)
def fullL (b:Gs)(ls:List (List UInt8))(to:Nat):List (List UInt8):=ls.map λl=>fullB b l to
theorem fullB_len (b:Gs)(past:List UInt8)(to:Nat):to≤(fullB b past to).length:=by rw[fullB,chainN_len];omega
def aheadL (b:Gs)(ls:List (List UInt8))(to:Nat):List (List UInt8):=(List.range (to-frontL ls)).map λi=>jointL (fullL b ls to) (frontL ls+i)
theorem aheadL_len (b:Gs)(ls:List (List UInt8))(to:Nat):(aheadL b ls to).length=to-frontL ls:=by simp[aheadL]
end
section
abbrev Lx:=Nat×List UInt8
def Ln (x:Lx):SP:=λh=>∃ (ad:Option Addr) (c:Nat),sepL [blk x.1 296 [.slice ad x.2.length c],Sl 5 1 ad x.2.length c (bc x.2)] h
section
variable {W w:World}{L L' R:List SP}{n c m lb:Nat}{ad:Option Addr}{l bs:List UInt8}{x:UInt8}
theorem Ln.open (hs:St W w (Ln (lb,l)::L)):∃ (ad:Option Addr) (c:Nat),St W w (blk lb 296 [.slice ad l.length c]::Sl 5 1 ad l.length c (bc l)::L):=by
 obtain⟨ad,_,hs⟩:=hs.exi (p:=λ_=>True) (B:=λad h=>∃ c,sepL [blk lb 296 [.slice ad l.length c],Sl 5 1 ad l.length c (bc l)] h) λ_ ⟨ad,c,h⟩=>⟨ad,trivial,c,h⟩
 obtain⟨c,_,hs⟩:=hs.exi (p:=λ_=>True) (B:=λc h=>sepL [blk lb 296 [.slice ad l.length c],Sl 5 1 ad l.length c (bc l)] h) λ_ ⟨c,h⟩=>⟨c,trivial,h⟩
 exact⟨ad,c,hs.open (M:=[_,_]) λ_ h=>h⟩
theorem Ln.close (hs:St W w (blk lb 296 [.slice ad l.length c]::Sl 5 1 ad l.length c (bc l)::L)):St W w (Ln (lb,l)::L) :=
 St.shut (M:=[_,_]) hs λ_ h=>⟨ad,c,h⟩
theorem Ln.mk' (hs:St W w L)(ad:Option Addr)(c:Nat)[k:Arr L (blk lb 296 [.slice ad l.length c]::Sl 5 1 ad l.length c (bc l)::L') R]:St W w (Ln (lb,l)::L'):=Ln.close (ad:=ad) (c:=c) hs.sub
theorem made8 (d:Nat):(madeCells (Value.int .u8 0).cells (d*1)).toList=bc (List.replicate d 0):=by
 apply List.ext_getElem?
 intro i
 by_cases h:i<d
 · rw[bc_at (by simpa using h)]
   rw[madeCells,Array.getElem?_toList,Array.getElem?_map,Array.getElem?_range]
   simp[h,Value.cells,Nat.mod_one]
 · rw[List.getElem?_eq_none (by simp[madeCells];omega),List.getElem?_eq_none (by rw[bc_len];simp;omega)]
theorem St.slWhole {b e sz m:Nat}{cs:List Value}(hs:St W w (blk b e cs::L))(h:cs.length=m*sz):St W w (Sl e sz (some ⟨b,0,none⟩) m m cs::L) :=
 St.slShut (pre:=[]) (post:=[]) (n:=m) (c:=m) (sz:=sz) (cs:=cs) (by simpa using hs) h (Nat.le_refl _) (by rw[Nat.sub_self,Nat.zero_mul];exact Nat.zero_le _)
theorem RdB.cutLH {w:World}{ad:Option Addr}{bs:List UInt8}{c lo n:Nat}(h:RdB w ad bs.length bs)(hl:lo+n≤bs.length)(hc:bs.length≤c):RdB w (cutAd ad lo c 1) n ((bs.drop lo).take n) :=
 (h.cutL (lo:=lo) (by omega) hc).cutH (by rw[List.length_drop];omega)
theorem line_new {d:Nat}(hs:St W w L)(hd:d≤8):Calls Tryz.prog 221 #[.int .i64 d] w λe w'=>∃ lb,e=.returned (pt lb)∧St W w' (Ln (lb,List.replicate d 0)::L):=by
 refine EN Tryz.func221 Tryz.ntmps221 rfl rfl λa ha=>?_
 refine RN 6 ha hs λa ha=>?_
 rw[show min (max (d:Int) 0) 8=(d:Int) from by omega]at ha
 refine st_makeSlice ha rfl hs Tryz.underlying22 Ty.t5 rfl (by omega) (by omega) λb6 a w ha hs ho=>?_
 clear ho
 rw[made8]at hs
 replace hs:=hs.slWhole (m:=d) (sz:=1) (by rw[bc_len,List.length_replicate,Nat.mul_one])
 refine BX 1 ha hs λb8 a w ha hs=>?_
 refine RN 1 ha hs λa ha=>?_
 replace hs:St W w (blk b8 296 [.slice (some ⟨b6,0,none⟩) (List.replicate d (0:UInt8)).length d]::Sl 5 1 (some ⟨b6,0,none⟩) (List.replicate d (0:UInt8)).length d (bc (List.replicate d 0))::L):=by
   rw[List.length_replicate];exact hs
 refine RT 0 ha hs ?_
 exact⟨b8,rfl,Ln.close hs⟩
theorem line_len (hs:St W w (Ln (lb,l)::L)):Calls Tryz.prog 148 #[pt lb] w λe w'=>e=.returned (.int .i64 l.length)∧St W w' (Ln (lb,l)::L):=by
 obtain⟨ad,c,hs⟩:=Ln.open hs
 refine EN Tryz.func148 Tryz.ntmps148 rfl rfl λa ha=>?_
 refine RN 6 ha hs λa ha=>?_
 replace ha:=ha.isF 4
 refine RT 8 ha hs ?_
 exact⟨rfl,Ln.close hs⟩
theorem line_at {f:Nat}(hs:St W w (Ln (lb,l)::L)):Calls Tryz.prog 183 #[pt lb,.int .i64 f] w λe w'=>e=.returned (.tuple #[.int .u8 ((l.getD f 0).toNat:Nat),.bool (decide (f<l.length))])∧St W w' (Ln (lb,l)::L):=by
 refine EN Tryz.func183 Tryz.ntmps183 rfl rfl λa ha=>?_
 refine RN 8 ha hs λa ha=>?_
 rw[decide_eq_false (by omega)]at ha
 refine CL 2 ha hs (line_len hs) λa w ha hs=>?_
 refine IF 2 ha hs (λhc0 a ha=>?_) λhc0 a ha=>?_
 ·
  refine RT 3 ha hs ?_
  exact⟨by rw[List.getD_eq_getElem?_getD,List.getElem?_eq_none (by omega),decide_eq_false (by omega)];rfl,hs⟩
 obtain⟨ad,c,hs⟩:=Ln.open hs
 have hfl:f<l.length:=by omega
 obtain⟨b,o,rfl,hr⟩:=(hs.rdB ad l rfl rfl).get (by omega)
 refine RN 7 ha hs λa ha=>?_
 refine SS ha (ld1 ha (hr f _ (bc_atD hfl))) λa ha=>?_
 refine RT 2 ha hs ?_
 exact⟨by rw[decide_eq_true hfl],Ln.close hs⟩
theorem line_add (hs:St W w (Ln (lb,l)::L))(hl:l.length≤1000):Calls Tryz.prog 177 #[pt lb,.int .u8 (x.toNat:Nat)] w λe w'=>e=.returned (.int .i64 (if l.length<1000 then 0 else 4))∧St W w' (Ln (lb,if l.length<1000 then l++[x] else l)::L):=by
 obtain⟨ad,c,hs⟩:=Ln.open hs
 refine EN Tryz.func177 Tryz.ntmps177 rfl rfl λa ha=>?_
 refine RN 7 ha hs λa ha=>?_
 replace ha:=ha.isF 5
 refine IF 9 ha hs (λhc1 a ha=>?_) λhc1 a ha=>?_
 ·
  refine RT 2 ha hs ?_
  exact⟨by rw[if_neg (by omega)],by rw[if_neg (by omega)];exact Ln.close hs⟩
 refine RN 7 ha hs λa ha=>?_
 refine st_buildSlice ha rfl hs Tryz.underlying22 Ty.t5 rfl rfl rfl rfl (by decide) (by decide) λb21 a w ha hs ho=>?_
 clear ho
 refine RN 0 ha hs λa ha=>?_
 refine st_append ha rfl hs Tryz.underlying22 Ty.t5 rfl rfl hs.rdAll rfl (bc_one [x]) (by decide) (by decide) (by omega) λad22 c22 a w ha hs=>?_
 rw[show bc l++_=bc (l++[x]) from (bc_app l [x]).symm]at hs
 refine ST 2 ha hs (λa w ha hs=>?_)
 refine RN 0 ha hs λa ha=>?_
 rw[show l.length+1=(l++[x]).length from by simp]at hs
 replace hs:=hs.sub (M:=blk lb 296 [.slice ad22 (l++[x]).length c22]::Sl 5 1 ad22 (l++[x]).length c22 (bc (l++[x]))::L)
 refine RT 2 ha hs ?_
 exact⟨by rw[if_pos (by omega)],by rw[if_pos (by omega)];exact Ln.close hs⟩
theorem line_put {f:Nat}(hs:St W w (Ln (lb,l)::L))(hl:l.length≤1000)(hb:bs.length≤65536)(hp:∀ w',St W w' L→RdB w' ad bs.length bs) :
   Calls Tryz.prog 205 #[pt lb,.int .i64 f,.slice ad bs.length c] w λe w'=>∃ n er:Int,e=.returned (.tuple #[.int .i64 n,.int .i64 er])∧St W w' (Ln (lb,putLn l f bs)::L):=by
 refine EN Tryz.func205 Tryz.ntmps205 rfl rfl λa ha=>?_
 refine RN 8 ha hs λa ha=>?_
 replace ha:=ha.isF 11
 refine RN 5 ha hs λa ha=>?_
 rw[decide_eq_false (by omega)]at ha
 refine RN 2 ha hs λa ha=>?_
 obtain⟨adl,cl,hs⟩:=Ln.open hs
 refine IF 8 ha hs (λhc2 a ha=>?_) λhc2 a ha=>?_
 ·
  replace hs:=Ln.close hs
  refine RT 3 ha hs ?_
  exact⟨_,_,rfl,by rw[putLn,if_pos (by omega)];exact hs⟩
 refine RN 11 ha hs λa ha=>?_
 rw[show ((l.length:Nat):Int)-(f:Int)=((l.length-f:Nat):Int) from by omega]at ha
 refine RN 1 ha hs λa ha=>?_
 replace hs:=Ln.close hs
 have hfl:f≤l.length:=by omega
 refine wp_loop_ghost (λμ a w=>∃ (i:Nat),(μ=bs.length-i∧l.length-f≤i∧(i≤bs.length∨i=l.length-f)∧l.length+(i-(l.length-f))≤1000)∧Fr a 51 [(0,pt lb),(2,.slice ad bs.length c),(8,.int .i64 (i-(l.length-f):Nat)),(9,.int .i64 i)]∧St W w (Ln (lb,l++(bs.drop (l.length-f)).take (i-(l.length-f)))::L)) (bs.length-(l.length-f)) (⟨l.length-f,⟨rfl,Nat.le_refl _,.inr rfl,by omega⟩,by rw[Nat.sub_self];exact ha.keep [0,2,8,9],by rw[Nat.sub_self,List.take_zero,List.append_nil];exact hs⟩) ?_
 clear ha hs
 rintro μ a w ⟨i,⟨rfl,hi,hib,hi1⟩,ha,hs⟩
 refine IF 6 ha hs (λhc3 a ha=>?_) λhc3 a ha=>?_
 ·
  obtain⟨bb,oo,rfl,hr⟩:=(hp _ hs.tail).get (by omega)
  have hil:i<bs.length:=by omega
  have hlen:(l++(bs.drop (l.length-f)).take (i-(l.length-f))).length=l.length+(i-(l.length-f)):=by rw[List.length_append,List.length_take,List.length_drop];omega
  refine RN 7 ha hs λa ha=>?_
  refine SS ha (ld1 ha (hr i _ (bc_at hil))) λa ha=>?_
  refine CL 0 ha hs (line_add hs (by rw[hlen];omega)) λa w ha hs=>?_
  rw[hlen]at ha hs
  refine IF 4 ha hs (λhc4 a ha=>?_) λhc4 a ha=>?_
  ·
   have h9:¬ l.length+(i-(l.length-f))<1000:=λh=>hc4 (if_pos h)
   rw[if_neg h9]at hs
   refine RT 5 ha hs ?_
   exact⟨_,_,rfl,by rw[putLn,if_neg (by omega),show 1000-l.length=i-(l.length-f) from by omega];exact hs⟩
  have h9:l.length+(i-(l.length-f))<1000:=Decidable.of_not_not λh=>by rw[if_neg h]at hc4;cases hc4
  rw[if_pos h9]at hs
  refine RN 6 ha hs λa ha=>?_
  exact⟨bs.length-(i+1),by omega,i+1,⟨rfl,by omega,by omega,by omega⟩,by rw[show ((i+1-(l.length-f):Nat):Int)=((i-(l.length-f):Nat):Int)+1 from by omega];exact ha.keep [0,2,8,9],by rw[putLn_add hfl hil hi h9];exact hs⟩
 refine RT 4 ha hs ?_
 exact⟨_,_,rfl,by rw[putLn,if_neg (by omega),List.take_of_length_le (by rw[List.length_drop];omega)];rw[List.take_of_length_le (by rw[List.length_drop];omega)]at hs;exact hs⟩
theorem line_from {f k:Nat}(hs:St W w (Ln (lb,l)::L))(hl:l.length≤1000)(hf:f≤1000)(hk:1≤k∧k≤1000) :
   Calls Tryz.prog 207 #[pt lb,.int .i64 f,.int .i64 k] w λe w'=>∃ ad' c',e=.returned (.slice ad' ((l.drop f).take k).length c')∧St W w' (Sl 5 1 ad' ((l.drop f).take k).length c' (bc ((l.drop f).take k))::Ln (lb,l)::L):=by
 have htl:((l.drop f).take k).length=min l.length (f+k)-f:=by rw[List.length_take,List.length_drop];omega
 refine EN Tryz.func207 Tryz.ntmps207 rfl rfl λa ha=>?_
 refine RN 7 ha hs λa ha=>?_
 rw[decide_eq_false (by omega)]at ha
 refine CL 2 ha hs (line_len hs) λa w ha hs=>?_
 refine BY 3 ha hs (λhg8 a ha=>?_) λhg8 a ha=>?_
 ·
  have hz:(l.drop f).take k=[]:=by rw[List.drop_eq_nil_of_le (by omega),List.take_nil]
  refine RT 6 ha hs ?_
  rw[hz];exact⟨_,_,rfl,hs.sl0 _ _ none⟩
 refine RN 3 ha hs λa ha=>?_
 rw[decide_eq_false (by omega)]at ha
 refine RN 2 ha hs λa ha=>?_
 obtain⟨adl,cl,hs⟩:=Ln.open hs
 have hcl:=(hs.sl adl).2
 refine DWO 0 [8,9,14] [0,1,2,4,5,6,7,10,11,12,13,3003,1008,1009,1014,15,1016,17] ha hs λa w ha hs hH hC=>?_
 refine RH 10 ha hs hH hC λa ha=>?_
 rw[show min (k:Int) 1000=(k:Int) from by omega]at ha
 refine RH 5 ha hs hH hC λa ha=>?_
 rw[show min (l.length:Int) ((f:Int)+(k:Int))=((min l.length (f+k):Nat):Int) from by omega]at ha
 refine RH 1 ha hs hH hC λa ha=>?_
 refine CL2 0 ha hs (bytes_clone (bs:=(l.drop f).take k) hs (λw' hw=>by have h1:=(hw.rdB adl l rfl rfl).cutLH (c:=cl) (lo:=f) (n:=min l.length (f+k)-f) (by omega) hcl;rw[show (l.drop f).take (min l.length (f+k)-f)=(l.drop f).take k from by rw[← htl,List.take_eq_take_iff,List.length_take,List.length_drop];omega]at h1;exact h1) (by omega)) λad3 c3 a w ha hs=>?_
 refine RN 1 ha hs λa ha=>?_
 refine RT 0 ha hs ?_
 exact⟨ad3,c3,by rw[htl],by rw[htl];exact (Ln.mk' (L':=Sl 5 1 ad3 (min l.length (f+k)-f) c3 (bc ((l.drop f).take k))::L) hs adl cl).perm (List.Perm.swap _ _ _)⟩
theorem line_all (hs:St W w (Ln (lb,l)::L))(hl:l.length≤1000) :
   Calls Tryz.prog 150 #[pt lb] w λe w'=>∃ ad' c',e=.returned (.slice ad' l.length c')∧St W w' (Sl 5 1 ad' l.length c' (bc l)::Ln (lb,l)::L):=by
 have hta:(l.drop 0).take 1000=l:=by rw[List.drop_zero,List.take_of_length_le hl]
 refine EN Tryz.func150 Tryz.ntmps150 rfl rfl λa ha=>?_
 refine CL2 4 ha hs (line_from (f:=0) (k:=1000) hs hl (by decide) (by decide)) λad3 c3 a w ha hs=>?_
 rw[hta]at ha hs
 refine RT 1 ha hs ?_
 exact⟨_,_,rfl,hs⟩
end
end
section
def lpt (x:Lx):Value:=pt x.1
def Qu (qb:Nat)(lbs:List Nat)(ls:List (List UInt8)):SP:=λh=>∃ (ad:Option Addr) (c:Nat),lbs.length=ls.length∧sepL [blk qb 234 [.slice ad ls.length c],Sl 226 1 ad ls.length c ((lbs.zip ls).map lpt),All Ln (lbs.zip ls)] h
section
variable {W w:World}{L L' R:List SP}{n c qb lb i f:Nat}{ad:Option Addr}{ls:List (List UInt8)}{lbs:List Nat}{l:List UInt8}{x:UInt8}
theorem Qu.open (hs:St W w (Qu qb lbs ls::L)):∃ (ad:Option Addr) (c:Nat),lbs.length=ls.length∧St W w (blk qb 234 [.slice ad ls.length c]::Sl 226 1 ad ls.length c ((lbs.zip ls).map lpt)::All Ln (lbs.zip ls)::L):=by
 obtain⟨⟨ad,c⟩,hl,hs⟩:=hs.exi (ι:=Option Addr×Nat) (p:=λ_=>lbs.length=ls.length) (B:=λy h=>sepL [blk qb 234 [.slice y.1 ls.length y.2],Sl 226 1 y.1 ls.length y.2 ((lbs.zip ls).map lpt),All Ln (lbs.zip ls)] h) λ_ ⟨ad,c,hl,h⟩=>⟨(ad,c),hl,h⟩
 exact⟨ad,c,hl,hs.open (M:=[_,_,_]) λ_ h=>h⟩
theorem Qu.close (hs:St W w (blk qb 234 [.slice ad ls.length c]::Sl 226 1 ad ls.length c ((lbs.zip ls).map lpt)::All Ln (lbs.zip ls)::L))(hl:lbs.length=ls.length):St W w (Qu qb lbs ls::L) :=
 St.shut (M:=[_,_,_]) hs λ_ h=>⟨ad,c,hl,h⟩
theorem Qu.mk' (hs:St W w L)(ad:Option Addr)(c:Nat)[k:Arr L (blk qb 234 [.slice ad ls.length c]::Sl 226 1 ad ls.length c ((lbs.zip ls).map lpt)::All Ln (lbs.zip ls)::L') R](hl:lbs.length=ls.length):St W w (Qu qb lbs ls::L'):=Qu.close (ad:=ad) (c:=c) hs.sub hl
theorem zip_at {lbs:List Nat}{ls:List (List UInt8)}(hl:lbs.length=ls.length){i:Nat}(h:i<ls.length):(lbs.zip ls)[i]?=some (lbs.getD i 0,ls.getD i []):=by
 rw[List.getElem?_zip_eq_some]
 simp only[List.getD_eq_getElem?_getD]
 rw[List.getElem?_eq_getElem h,List.getElem?_eq_getElem (by omega)]
 exact⟨rfl,rfl⟩
def QuH (qb:Nat)(lbs:List Nat)(ls:List (List UInt8))(i:Nat):SP:=λh=>∃ (ad:Option Addr) (c:Nat),lbs.length=ls.length∧sepL [blk qb 234 [.slice ad ls.length c],Sl 226 1 ad ls.length c ((lbs.zip ls).map lpt),All Ln ((lbs.zip ls).eraseIdx i)] h
theorem Qu.out (hs:St W w (Qu qb lbs ls::L))(h:i<ls.length):St W w (Ln (lbs.getD i 0,ls.getD i [])::QuH qb lbs ls i::L):=by
 obtain⟨ad,c,hl,hs⟩:=Qu.open hs
 have hz:=zip_at hl h
 obtain⟨hi,he⟩:=List.getElem?_eq_some_iff.1 hz
 replace hs:=(hs.pick (All Ln (lbs.zip ls))).allOut hi
 rw[he]at hs
 have h2:St W w (blk qb 234 [.slice ad ls.length c]::Sl 226 1 ad ls.length c ((lbs.zip ls).map lpt)::All Ln ((lbs.zip ls).eraseIdx i)::Ln (lbs.getD i 0,ls.getD i [])::L):=hs.sub
 exact (St.shut (M:=[_,_,_]) h2 λ_ h=>⟨ad,c,hl,h⟩:St W w (QuH qb lbs ls i::Ln (lbs.getD i 0,ls.getD i [])::L)).perm (List.Perm.swap _ _ _)
theorem map_set {α β:Type}(f:α→β)(l:List α)(i:Nat)(x:α):(l.set i x).map f=(l.map f).set i (f x):=by
 apply List.ext_getElem? ;intro j
 simp only[List.getElem?_map,List.getElem?_set,List.length_map]
 split
 · split <;> rfl
 · rfl
theorem zip_set {lbs:List Nat}{ls:List (List UInt8)}(hl:lbs.length=ls.length){i:Nat}(h:i<ls.length)(l:List UInt8):lbs.zip (ls.set i l)=(lbs.zip ls).set i (lbs.getD i 0,l):=by
 apply List.ext_getElem?;intro j
 by_cases hj:j<ls.length
 · rw[zip_at (by simpa using hl) (by simpa using hj),List.getElem?_set]
   by_cases hij:i=j
   · subst hij
     rw[if_pos rfl,if_pos (by simp;omega)]
     simp[List.getD_eq_getElem?_getD,h]
   · rw[if_neg hij,zip_at hl hj]
     simp[List.getD_eq_getElem?_getD,List.getElem?_set_ne hij]
 · rw[List.getElem?_eq_none (by simp;omega),List.getElem?_eq_none (by simp;omega)]
theorem Qu.in (hs:St W w (Ln (lbs.getD i 0,l)::QuH qb lbs ls i::L))(h:i<ls.length):St W w (Qu qb lbs (ls.set i l)::L):=by
 obtain⟨⟨ad,c⟩,hl,hs⟩:=(hs.pick (QuH qb lbs ls i)).exi (ι:=Option Addr×Nat) (p:=λ_=>lbs.length=ls.length) (B:=λy h=>sepL [blk qb 234 [.slice y.1 ls.length y.2],Sl 226 1 y.1 ls.length y.2 ((lbs.zip ls).map lpt),All Ln ((lbs.zip ls).eraseIdx i)] h) λ_ ⟨ad,c,hl,h⟩=>⟨(ad,c),hl,h⟩
 replace hs:St W w (blk qb 234 [.slice ad ls.length c]::Sl 226 1 ad ls.length c ((lbs.zip ls).map lpt)::All Ln ((lbs.zip ls).eraseIdx i)::Ln (lbs.getD i 0,l)::L):=hs.open (M:=[_,_,_]) λ_ h=>h
 have hz:=zip_at hl h
 obtain⟨hi,he⟩:=List.getElem?_eq_some_iff.1 hz
 have h1:St W w (Ln (lbs.getD i 0,l)::All Ln ((lbs.zip ls).eraseIdx i)::blk qb 234 [.slice ad ls.length c]::Sl 226 1 ad ls.length c ((lbs.zip ls).map lpt)::L):=hs.sub
 replace h1:=h1.allPut hi
 rw[← zip_set hl h]at h1
 have hls:ls.length=(ls.set i l).length:=by rw[List.length_set]
 have hp:(lbs.zip ls).map lpt=(lbs.zip (ls.set i l)).map lpt:=by
   rw[zip_set hl h,map_set]
   symm
   apply List.ext_getElem?;intro j
   rw[List.getElem?_set]
   split
   · rename_i hj;subst hj
     split
     · rw[List.getElem?_map,hz];rfl
     · rw[List.getElem?_eq_none (by omega)]
   · rfl
 rw[hp,hls]at h1
 exact Qu.mk' h1 ad c (by rw[← hls];exact hl)
theorem set_sameQ {ls:List (List UInt8)}{i:Nat}:ls.set i (ls.getD i [])=ls:=by
 apply List.ext_getElem?;intro j
 rw[List.getElem?_set]
 split
 · rename_i h;subst h
   split
   · rename_i h;rw[List.getD_eq_getElem?_getD,List.getElem?_eq_getElem h];rfl
   · rw[List.getElem?_eq_none (by omega)]
 · rfl
theorem Qu.back (hs:St W w (Ln (lbs.getD i 0,ls.getD i [])::QuH qb lbs ls i::L))(h:i<ls.length):St W w (Qu qb lbs ls::L):=by
 have:=Qu.in hs h
 rwa [set_sameQ]at this
theorem q_len (hs:St W w (Qu qb lbs ls::L))(h:i<ls.length):Calls Tryz.prog 148 #[.pointer (some ⟨lbs.getD i 0,0,none⟩)] w λe w'=>e=.returned (.int .i64 (ls.getD i []).length)∧St W w' (Qu qb lbs ls::L) :=
 (line_len (Qu.out hs h)).mono λ_ _ ⟨he,hs⟩=>⟨he,Qu.back hs h⟩
theorem q_at (hs:St W w (Qu qb lbs ls::L))(h:i<ls.length):Calls Tryz.prog 183 #[.pointer (some ⟨lbs.getD i 0,0,none⟩),.int .i64 f] w λe w'=>e=.returned (.tuple #[.int .u8 (((ls.getD i []).getD f 0).toNat:Nat),.bool (decide (f<(ls.getD i []).length))])∧St W w' (Qu qb lbs ls::L) :=
 (line_at (Qu.out hs h)).mono λ_ _ ⟨he,hs⟩=>⟨he,Qu.back hs h⟩
theorem q_add (hs:St W w (Qu qb lbs ls::L))(h:i<ls.length)(hl:(ls.getD i []).length<1000):Calls Tryz.prog 177 #[.pointer (some ⟨lbs.getD i 0,0,none⟩),.int .u8 (x.toNat:Nat)] w λe w'=>e=.returned (.int .i64 0)∧St W w' (Qu qb lbs (ls.set i (ls.getD i []++[x]))::L) :=
 (line_add (Qu.out hs h) (by omega)).mono λ_ _ ⟨he,hs⟩=>by
   rw[if_pos hl]at he hs
   exact⟨he,Qu.in hs h⟩
theorem q_put {fr:Nat}{bs:List UInt8}(hs:St W w (Qu qb lbs ls::L))(h:i<ls.length)(hl:(ls.getD i []).length≤1000)(hb:bs.length≤65536)(hp:∀ w',St W w' L→RdB w' ad bs.length bs) :
   Calls Tryz.prog 205 #[.pointer (some ⟨lbs.getD i 0,0,none⟩),.int .i64 fr,.slice ad bs.length c] w λe w'=>∃ n er:Int,e=.returned (.tuple #[.int .i64 n,.int .i64 er])∧St W w' (Qu qb lbs (ls.set i (putLn (ls.getD i []) fr bs))::L) :=
 (line_put (Qu.out hs h) hl hb (λw' hw=>hp w' hw.tail)).mono λ_ _ ⟨n,er,he,hs⟩=>⟨n,er,he,Qu.in hs h⟩
theorem q_from {fr k:Nat}(hs:St W w (Qu qb lbs ls::L))(h:i<ls.length)(hl:(ls.getD i []).length≤1000)(hf:fr≤1000)(hk:1≤k∧k≤1000) :
   Calls Tryz.prog 207 #[.pointer (some ⟨lbs.getD i 0,0,none⟩),.int .i64 fr,.int .i64 k] w λe w'=>∃ ad' c',e=.returned (.slice ad' (((ls.getD i []).drop fr).take k).length c')∧St W w' (Sl 5 1 ad' (((ls.getD i []).drop fr).take k).length c' (bc (((ls.getD i []).drop fr).take k))::Qu qb lbs ls::L) :=
 (line_from (Qu.out hs h) hl hf hk).mono λ_ _ ⟨ad',c',he,hs⟩=>⟨ad',c',he,(Qu.back (L:=Sl 5 1 ad' _ c' _::L) hs.sub h).perm (List.Perm.swap _ _ _)⟩
theorem q_all (hs:St W w (Qu qb lbs ls::L))(h:i<ls.length)(hl:(ls.getD i []).length≤1000) :
   Calls Tryz.prog 150 #[.pointer (some ⟨lbs.getD i 0,0,none⟩)] w λe w'=>∃ ad' c',e=.returned (.slice ad' (ls.getD i []).length c')∧St W w' (Sl 5 1 ad' (ls.getD i []).length c' (bc (ls.getD i []))::Qu qb lbs ls::L) :=
 (line_all (Qu.out hs h) hl).mono λ_ _ ⟨ad',c',he,hs⟩=>⟨ad',c',he,(Qu.back (L:=Sl 5 1 ad' _ c' _::L) hs.sub h).perm (List.Perm.swap _ _ _)⟩
theorem queue_n (hs:St W w (Qu qb lbs ls::L)):Calls Tryz.prog 149 #[pt qb] w λe w'=>e=.returned (.int .i64 ls.length)∧St W w' (Qu qb lbs ls::L):=by
 obtain⟨ad,c,hl,hs⟩:=Qu.open hs
 refine EN Tryz.func149 Tryz.ntmps149 rfl rfl λa ha=>?_
 refine RN 6 ha hs λa ha=>?_
 replace ha:=ha.isF 4
 refine RT 8 ha hs ?_
 exact⟨rfl,Qu.close hs hl⟩
theorem zp_at {lbs:List Nat}{ls:List (List UInt8)}(hl:lbs.length=ls.length){i:Nat}(h:i<ls.length):((lbs.zip ls).map lpt)[i]?=some (.pointer (some ⟨lbs.getD i 0,0,none⟩)):=by
 rw[List.getElem?_map,zip_at hl h];rfl
theorem queue_line (hs:St W w (Qu qb lbs ls::L))(h:i<ls.length):Calls Tryz.prog 146 #[pt qb,.int .i64 i] w λe w'=>e=.returned (.pointer (some ⟨lbs.getD i 0,0,none⟩))∧St W w' (Qu qb lbs ls::L):=by
 refine EN Tryz.func146 Tryz.ntmps146 rfl rfl λa ha=>?_
 refine RN 7 ha hs λa ha=>?_
 rw[decide_eq_false (by omega)]at ha
 refine CL 2 ha hs (queue_n hs) λa w ha hs=>?_
 refine RN 2 ha hs λa ha=>?_
 rw[decide_eq_false (by omega)]at ha
 refine RN 2 ha hs λa ha=>?_
 obtain⟨ad,c,hl,hs⟩:=Qu.open hs
 obtain⟨b,o,rfl,hr⟩:=hs.slRd ad (by omega)
 refine RN 6 ha hs λa ha=>?_
 refine SS ha (ld1 ha (hr i _ (zp_at hl h))) λa ha=>?_
 refine RT 1 ha hs ?_
 exact⟨rfl,Qu.close hs hl⟩
theorem queue_front (hs:St W w (Qu qb lbs ls::L))(h0:ls≠[])(hl8:ls.length≤8):Calls Tryz.prog 84 #[pt qb] w λe w'=>e=.returned (.int .i64 (frontL ls))∧St W w' (Qu qb lbs ls::L):=by
 have hpos:0<ls.length:=List.length_pos_iff.2 h0
 refine EN Tryz.func84 Tryz.ntmps84 rfl rfl λa ha=>?_
 refine CL 5 ha hs (queue_n hs) λa w ha hs=>?_
 refine RN 1 ha hs λa ha=>?_
 rw[decide_eq_false (by omega)]at ha
 refine RN 2 ha hs λa ha=>?_
 obtain⟨ad,c,hl,hs⟩:=Qu.open hs
 obtain⟨b,o,rfl,hr⟩:=hs.slRd ad (by omega)
 refine RN 5 ha hs λa ha=>?_
 refine SS ha (ld1 ha (hr 0 _ (zp_at hl hpos))) λa ha=>?_
 replace hs:St W w (Qu qb lbs ls::L):=Qu.close hs hl
 refine CL 0 ha hs (q_len hs hpos) λa w ha hs=>?_
 refine RN 3 ha hs λa ha=>?_
 obtain⟨ad,c,hl,hs⟩:=Qu.open hs
 rw[show ((ls.getD 0 []).length:Int)=(frontN ls 0:Nat) from by rw[frontN,List.headD_eq_getD]]at ha
 refine RN 6 ha hs λa ha=>?_
 replace hs:St W w (blk qb 234 [.slice ad ls.length c]::Sl 226 1 ad ls.length c ((lbs.zip ls).map lpt)::All Ln (lbs.zip ls)::L):=hs
 refine wp_loop_ghost (λμ a w=>∃ (i:Nat),(μ=ls.length-i∧i≤ls.length)∧Fr a 31 [(3,.int .i64 (frontN ls i:Nat)),(19,.slice ad ls.length c),(20,.int .i64 ls.length),(21,.int .i64 i)]∧St W w (blk qb 234 [.slice ad ls.length c]::Sl 226 1 ad ls.length c ((lbs.zip ls).map lpt)::All Ln (lbs.zip ls)::L)) (ls.length) (⟨0,⟨rfl,by omega⟩,ha.keep [3,19,20,21],hs⟩) ?_
 clear ha hs
 rintro μ a w ⟨i,⟨rfl,hi⟩,ha,hs⟩
 refine IF 3 ha hs (λhc1 a ha=>?_) λhc1 a ha=>?_
 ·
  obtain⟨b2,o2,rfl,hr2⟩:=hs.slRd ad (by omega)
  have hil:i<ls.length:=by omega
  have hz:=zip_at hl hil
  obtain⟨hzi,hze⟩:=List.getElem?_eq_some_iff.1 hz
  refine RN 3 ha hs λa ha=>?_
  refine SS ha (ld1 ha (hr2 i _ (zp_at hl hil))) λa ha=>?_
  refine RN 1 ha hs λa ha=>?_
  replace hs:=(hs.pick (All Ln (lbs.zip ls))).allOut hzi
  rw[hze]at hs
  refine CL 2 ha hs (line_len hs) λa w ha hs=>?_
  replace hs:=(hze ▸ hs:St W w (Ln (lbs.zip ls)[i]::_)).allPut hzi
  rw[List.set_getElem_self]at hs
  refine RN 1 ha hs λa ha=>?_
  rw[show min ((frontN ls i:Nat):Int) ((ls.getD i []).length:Int)=((frontN ls (i+1):Nat):Int) from by rw[frontN];omega]at ha
  refine RN 3 ha hs λa ha=>?_
  exact⟨ls.length-(i+1),by omega,i+1,⟨rfl,by omega⟩,ha.keep [3,19,20,21],hs.sub⟩
 obtain rfl:i=ls.length:=by omega
 refine RT 3 ha hs ?_
 exact⟨rfl,Qu.close hs hl⟩
theorem queue_joint (hs:St W w (Qu qb lbs ls::L))(h0:ls≠[])(hf:f<frontL ls)(hl8:ls.length≤8):Calls Tryz.prog 173 #[pt qb,.int .i64 f] w λe w'=>∃ ad' c',e=.returned (.tuple #[.slice ad' (jointL ls f).length c',.bool true]) ∧
   St W w' (Sl 5 1 ad' (jointL ls f).length c' (bc (jointL ls f))::Qu qb lbs ls::L):=by
 refine EN Tryz.func173 Tryz.ntmps173 rfl rfl λa ha=>?_
 refine RN 8 ha hs λa ha=>?_
 rw[decide_eq_false (by omega)]at ha
 refine CL 2 ha hs (queue_front hs h0 hl8) λa w ha hs=>?_
 refine RN 2 ha hs λa ha=>?_
 rw[decide_eq_false (by omega)]at ha
 refine RN 5 ha hs λa ha=>?_
 obtain⟨ad,c,hl,hs⟩:=Qu.open hs
 refine RN 6 ha hs λa ha=>?_
 refine wp_loop_ghost (λμ a w=>∃ (i:Nat) (ad2:Option Addr) (c2:Nat),(μ=ls.length-i∧i≤ls.length)∧Fr a 40 [(1,.int .i64 f),(6,.slice ad2 (jointN ls f i).length c2),(22,.slice ad ls.length c),(23,.int .i64 ls.length),(24,.int .i64 i)]∧St W w (Sl 5 1 ad2 (jointN ls f i).length c2 (bc (jointN ls f i))::blk qb 234 [.slice ad ls.length c]::Sl 226 1 ad ls.length c ((lbs.zip ls).map lpt)::All Ln (lbs.zip ls)::L)) (ls.length) (⟨0,none,0,⟨rfl,by omega⟩,ha.keep [1,6,22,23,24],hs.sl0 5 1 none⟩) ?_
 clear ha hs
 rintro μ a w ⟨i,ad2,c2,⟨rfl,hi⟩,ha,hs⟩
 refine IF 3 ha hs (λhc1 a ha=>?_) λhc1 a ha=>?_
 ·
  obtain⟨b2,o2,rfl,hr2⟩:=hs.slRd ad (by omega)
  have hil:i<ls.length:=by omega
  have hz:=zip_at hl hil
  obtain⟨hzi,hze⟩:=List.getElem?_eq_some_iff.1 hz
  have hjl:=jointN_len (ls:=ls) (f:=f) (i:=i) hi
  refine RN 3 ha hs λa ha=>?_
  refine SS ha (ld1 ha (hr2 i _ (zp_at hl hil))) λa ha=>?_
  refine RN 2 ha hs λa ha=>?_
  replace hs:=(hs.pick (All Ln (lbs.zip ls))).allOut hzi
  rw[hze]at hs
  refine CL 2 ha hs (line_at hs) λa w ha hs=>?_
  replace hs:=(hze ▸ hs:St W w (Ln (lbs.zip ls)[i]::_)).allPut hzi
  rw[List.set_getElem_self]at hs
  refine RN 7 ha hs λa ha=>?_
  refine st_buildSlice ha rfl hs Tryz.underlying22 Ty.t5 rfl rfl rfl rfl (by decide) (by decide) λb36 a w ha hs ho=>?_
  clear ho
  refine RN 0 ha hs λa ha=>?_
  refine st_append ha rfl hs Tryz.underlying22 Ty.t5 rfl rfl hs.rdAll rfl (bc_one [(ls.getD i []).getD f 0]) (by decide) (by decide) (by omega) λad37 c37 a w ha hs=>?_
  rw[show bc (jointN ls f i)++_=bc (jointN ls f (i+1)) from by rw[jointN_succ hil,bc_app,List.getD_eq_getElem?_getD (l:=ls),List.getElem?_eq_getElem hil];rfl,show (jointN ls f i).length+1=(jointN ls f (i+1)).length from by rw[jointN_len hi,jointN_len (by omega)]]at hs
  rw[show (jointN ls f i).length+1=(jointN ls f (i+1)).length from by rw[jointN_len hi,jointN_len (by omega)]]at ha
  refine RN 3 ha hs λa ha=>?_
  exact⟨ls.length-(i+1),by omega,i+1,_,_,⟨rfl,by omega⟩,ha.keep [1,6,22,23,24],hs.sub⟩
 obtain rfl:i=ls.length:=by omega
 rw[jointN_all]at ha hs
 refine RT 4 ha hs ?_
 exact⟨_,_,rfl,(Qu.mk' (L':=Sl 5 1 ad2 (jointL ls f).length c2 (bc (jointL ls f))::L) hs ad c hl).perm (List.Perm.swap _ _ _)⟩
theorem queue_new {d:Nat}(hs:St W w L)(hn:2≤n∧n≤8)(hd:d≤8):Calls Tryz.prog 170 #[.int .i64 n,.int .i64 d] w λe w'=>∃ qb lbs,e=.returned (pt qb)∧St W w' (Qu qb lbs (List.replicate n (List.replicate d 0))::L):=by
 refine EN Tryz.func170 Tryz.ntmps170 rfl rfl λa ha=>?_
 refine BX 4 ha hs λb7 a w ha hs=>?_
 refine RN 6 ha hs λa ha=>?_
 rw[show min (max (n:Int) 2) 8=(n:Int) from by omega]at ha
 refine RN 1 ha hs λa ha=>?_
 replace hs:=hs.sl0 226 1 none
 replace hs:=St.allNil (f:=Ln) hs
 refine wp_loop_ghost (λμ a w=>∃ (i:Nat) (xs:List Lx) (ad:Option Addr) (c:Nat),(μ=n-i∧i≤n∧xs.map (·.2)=List.replicate i (List.replicate d 0))∧Fr a 26 [(1,.int .i64 d),(5,pt b7),(10,.int .i64 n),(11,.int .i64 i)]∧St W w (blk b7 234 [.slice ad i c]::Sl 226 1 ad i c (xs.map lpt)::All Ln xs::L)) (n) (⟨0,[],none,0,⟨rfl,by omega,rfl⟩,ha.keep [1,5,10,11],(hs.sub:St W w (blk b7 234 [.slice none 0 0]::Sl 226 1 none 0 0 []::All Ln []::L))⟩) ?_
 clear ha hs
 rintro μ a w ⟨i,xs,ad,c,⟨rfl,hi,hxs⟩,ha,hs⟩
 refine IF 3 ha hs (λhc0 a ha=>?_) λhc0 a ha=>?_
 ·
  refine DWC 1 (λw0 w'=>Rd w' b7 0 [.slice ad i c]) [6,7] [0,1,2,3,5,3004,1006,1007,1008,9,10,1011] ha hs λa w ha hs hH=>?_
  have hC:=hH.at w hs.rdAll
  refine RH 5 ha hs hH hC λa ha=>?_
  refine QH ha (λw hc=>ld1 ha (hc 0 _ rfl)) hC λa ha=>?_
  refine RH 0 ha hs hH hC λa ha=>?_
  refine CL1 0 ha hs (line_new hs hd) λlb a w ha hs=>?_
  replace hC:=hH.at w hs.rdAll
  refine RH 0 ha hs hH hC λa ha=>?_
  refine st_buildSlice ha rfl hs Tryz.underlying232 Ty.t226 rfl rfl rfl rfl (by decide) (by decide) λb20 a w ha hs ho=>?_
  clear ho
  replace hC:=hH.at w hs.rdAll
  refine RH 0 ha hs hH hC λa ha=>?_
  refine st_append ha rfl hs Tryz.underlying232 Ty.t226 rfl rfl hs.rdAll rfl (by simp[Value.oneCell']) (by decide) (by decide) (by omega) λad21 c21 a w ha hs=>?_
  rw[show List.map lpt xs++_=List.map lpt (xs++[(lb,List.replicate d 0)]) from by rw[List.map_append];rfl]at hs
  refine ST 2 ha hs (λa w ha hs=>?_)
  refine RN 2 ha hs λa ha=>?_
  have hs2:=St.allPush (x:=(lb,List.replicate d 0)) (hs.sub (M:=Ln (lb,List.replicate d 0)::All Ln xs::blk b7 234 [.slice ad21 (i+1) c21]::Sl 226 1 ad21 (i+1) c21 ((xs++[(lb,List.replicate d 0)]).map lpt)::L))
  exact⟨n-(i+1),by omega,i+1,xs++[(lb,List.replicate d 0)],ad21,c21,⟨rfl,by omega,by rw[List.map_append,hxs,List.replicate_succ'];rfl⟩,ha.keep [1,5,10,11],hs2.sub⟩
 obtain rfl:i=n:=by omega
 refine RT 3 ha hs ?_
 have hxl:xs.length=i:=by rw[← List.length_map (f:=(·.2)),hxs,List.length_replicate]
 have hz:(xs.map (·.1)).zip (List.replicate i (List.replicate d 0))=xs:=by
   rw[← hxs]
   clear hxs hs ha hxl
   induction xs with
   | nil=>rfl
   | cons x xs ih=>rw[List.map_cons,List.map_cons,List.zip_cons_cons,ih]
 have hll:(List.replicate i (List.replicate d (0:UInt8))).length=i:=List.length_replicate
 refine⟨b7,xs.map (·.1),rfl,?_⟩
 refine Qu.close (ad:=ad) (c:=c) ?_ (by rw[List.length_map,hxl,hll])
 rw[hll,hz];exact hs
end
end
section
structure Cf where
 n:Int
 me:Int
 id:Int
 delay:Int
 window:Int
 guess:Int
 order:Int
 branches:Int
 workers:Int
 room:Int
abbrev cfC (c:Cf):List Value:=[.int .i64 c.n,.int .i64 c.me,.int .i64 c.id,.int .i64 c.delay,.int .i64 c.window,.int .i64 c.guess,.int .i64 c.order,.int .i64 c.branches,.int .i64 c.workers,.int .i64 c.room]
def inI (n l h:Int):Prop:=l≤n∧n≤h
instance (n l h:Int):Decidable (inI n l h):=inferInstanceAs (Decidable (_∧_))
def mayCf (c:Cf):Prop:=(inI c.n 2 8∧inI c.me 0 (c.n-1)∧inI c.id 0 1099511627776)∧(inI c.delay 0 8∧inI c.window 1 16∧inI c.guess 1 3∧inI c.order 0 3) ∧
 (c.order=0∨c.guess=2)∧inI c.branches 0 8∧inI c.workers 0 4∧inI c.room 3 50
instance (c:Cf):Decidable (mayCf c):=inferInstanceAs (Decidable (_∧_))
structure Pe where
 has:Nat
 heard:Nat
 frame:Nat
 sum:Nat
 apart:Bool
structure Ks where
 n:Nat
 me:Nat
 delay:Nat
 window:Nat
 id:Int
 guess:Int
 order:Int
 branches:Int
 workers:Int
 room:Int
 ls:List (List UInt8)
 ps:List Pe
 mr:List Nat
 ev:List (Nat×Nat×Nat)
 now:Nat
 cl:Bool
def ksCf (k:Ks):Cf:=⟨k.n,k.me,k.id,k.delay,k.window,k.guess,k.order,k.branches,k.workers,k.room⟩
def pe0 (d:Nat):Pe:=⟨d,0,0,0,false⟩
def newK (c:Cf):Ks:=⟨c.n.toNat,c.me.toNat,c.delay.toNat,c.window.toNat,c.id,c.guess,c.order,c.branches,c.workers,c.room,
 List.replicate c.n.toNat (List.replicate c.delay.toNat 0),List.replicate c.n.toNat (pe0 c.delay.toNat),[],[],0,false⟩
def headK (k:Ks):Nat:=(k.ls.getD k.me []).length
def frontK (k:Ks):Nat:=frontL k.ls
def badP (mk:List Nat)(p:Pe):Prop:=p.apart=false∧1≤p.frame∧p.frame≤mk.length∧mk.getD (p.frame-1) 0≠p.sum
instance (mk:List Nat)(p:Pe):Decidable (badP mk p):=inferInstanceAs (Decidable (_∧_))
def peK (k:Ks)(i:Nat):Pe:=k.ps.getD i (pe0 0)
def hold1 (k:Ks)(i:Nat):Ks:=if badP k.mr (peK k i) then { k with ps:=k.ps.set i { peK k i with apart:=true },ev:=k.ev++[(3,i,(peK k i).frame)] } else k
def holdN (k:Ks):Nat→Ks
 | 0=>k
 | i+1=>hold1 (holdN k i) i
def holdK (k:Ks):Ks:=holdN k k.ps.length
def markK (k:Ks)(s:Nat):Ks:=holdK (if k.mr.length<1000 then { k with mr:=k.mr++[s] } else k)
def pressK (b:UInt8)(k:Ks):Int×Ks:=if k.cl=true then (6,k) else if 1000≤headK k then (4,k) else if k.window+frontK k≤headK k then (5,k) else (0,{ k with ls:=k.ls.set k.me (k.ls.getD k.me []++[b]) })
def hearP (now head:Nat)(p:Pk)(x:Pe):Pe :=
 let h:=if x.has<p.ack.toNat∧p.ack.toNat≤head then p.ack.toNat else x.has
 if 0<p.frame∧(x.frame:Int)≤p.frame then { x with heard:=now,has:=h,frame:=p.frame.toNat,sum:=p.sum } else { x with heard:=now,has:=h }
def hearK (k:Ks)(p:Pk):Ks :=
 if p.kind=2 then { k with ps:=k.ps.set p.from'.toNat { peK k p.from'.toNat with heard:=k.now },ev:=k.ev++[(1,p.from'.toNat,0)],cl:=true }
 else holdK { k with ls:=k.ls.set p.from'.toNat (putLn (k.ls.getD p.from'.toNat []) p.first.toNat p.press),ps:=k.ps.set p.from'.toNat (hearP k.now (headK k) p (peK k p.from'.toNat)) }
noncomputable def recvK (bs:List UInt8)(k:Ks):Int×Ks:=if k.cl=true then (6,k) else match decO bs with
 | none=>(1,k)
 | some p=>if p.to≠k.me∨(k.n:Int)≤p.from'∨p.id≠k.id then (1,k) else (0,hearK k p)
def mailPk (k:Ks)(i:Nat):Pk:=⟨1,k.me,i,k.id,(peK k i).has,(k.ls.getD i []).length,k.mr.length,k.mr.getLastD 0,((k.ls.getD k.me []).drop (peK k i).has).take 32⟩
def quitPk (k:Ks)(i:Nat):Pk:=⟨2,k.me,i,k.id,0,0,0,0,[]⟩
def othersK (k:Ks):List Nat:=(List.range k.n).filter (·≠k.me)
def lateP (k:Ks)(i:Nat):Prop:=(peK k i).heard+40≤k.now
instance (k:Ks)(i:Nat):Decidable (lateP k i):=inferInstanceAs (Decidable (_≤_))
abbrev Ml:=Nat×Nat×List UInt8
def tickK (k:Ks):List Ml×Ks:=if k.cl=true then ([],k) else
 let k:={ k with now:=k.now+1 }
 match (othersK k).find? (λi=>decide (lateP k i)) with
 | some i=>([],{ k with ev:=k.ev++[(2,i,0)],cl:=true })
 | none=>((othersK k).map λi=>(k.me,i,encO (mailPk k i)),k)
def quitK (k:Ks):List Ml×Ks:=if k.cl=true then ([],k) else ((othersK k).map λi=>(k.me,i,encO (quitPk k i)),{ k with cl:=true })
def held (k:Ks):Prop:=∀ i,i<k.ps.length→¬ badP k.mr (peK k i)
structure WC (k:Ks):Prop where
 n:2≤k.n∧k.n≤8
 me:k.me<k.n
 id:0≤k.id∧k.id≤1099511627776
 delay:k.delay≤8
 window:1≤k.window∧k.window≤16
 ls:k.ls.length=k.n
 ps:k.ps.length=k.n
 ln:∀ l∈k.ls,l.length≤1000
 mr:k.mr.length≤1000
 mrs:∀ s∈k.mr,s<4294967296
 now:∀ p∈k.ps,p.heard≤k.now
 pe:∀ p∈k.ps,p.has≤1000∧p.frame≤1000∧p.sum<4294967296
 evs:∀ e∈k.ev,e.1≤3∧1≤e.1∧e.2.1<8∧e.2.2≤1000∧(e.1=3∨e.2.2=0)
 evn:k.ev.length+k.ps.countP (λp=>!p.apart)+(if k.cl=true then 0 else 1)≤k.n+1
section
variable {k:Ks}{i:Nat}
theorem WC.evl (h:WC k):k.ev.length≤9:=by have:=h.evn;have:=h.n;omega
theorem peK_mem (h:i<k.ps.length):peK k i∈k.ps:=by
 rw[peK,List.getD_eq_getElem?_getD,List.getElem?_eq_getElem h];exact List.getElem_mem _
theorem ln_mem {ls:List (List UInt8)}(h:i<ls.length):ls.getD i []∈ls:=by
 rw[List.getD_eq_getElem?_getD,List.getElem?_eq_getElem h];exact List.getElem_mem _
theorem WC.pet (h:WC k)(hi:i<k.n):(peK k i).has≤1000∧(peK k i).heard≤k.now∧(peK k i).frame≤1000∧(peK k i).sum<4294967296:=by
 have hm:=peK_mem (k:=k) (i:=i) (by rw[h.ps];exact hi)
 exact⟨(h.pe _ hm).1,h.now _ hm,(h.pe _ hm).2⟩
theorem WC.lnt (h:WC k)(hi:i<k.n):(k.ls.getD i []).length≤1000:=h.ln _ (ln_mem (by rw[h.ls];exact hi))
theorem WC.headt (h:WC k):headK k≤1000:=h.lnt h.me
theorem WC.frontt (h:WC k):frontK k≤headK k:=frontL_le (ln_mem (by rw[h.ls];exact h.me))
theorem mem_set {α:Type}{l:List α}{x y:α}(h:y∈l.set i x):y∈l∨y=x:=List.mem_or_eq_of_mem_set h
theorem WC.peSet (h:WC k){p:Pe}{ev:List (Nat×Nat×Nat)}{cl:Bool}(hp:p.has≤1000∧p.frame≤1000∧p.sum<4294967296)(hh:p.heard≤k.now)
   (he:∀ e∈ev,e.1≤3∧1≤e.1∧e.2.1<8∧e.2.2≤1000∧(e.1=3∨e.2.2=0)) (hn:ev.length+(k.ps.set i p).countP (λp=>!p.apart)+(if cl=true then 0 else 1)≤k.n+1):WC { k with ps:=k.ps.set i p,ev:=ev,cl:=cl } :=
 { h with
   ps:=by show (k.ps.set i p).length=_;rw[List.length_set];exact h.ps
   now:=λq hq=>by
     rcases mem_set hq with hq | rfl
     · exact h.now q hq
     · exact hh
   pe:=λq hq=>by
     rcases mem_set hq with hq | rfl
     · exact h.pe q hq
     · exact hp
   evs:=he
   evn:=hn }
theorem count_set {l:List Pe}{p:Pe}(h:i<l.length):(l.set i p).countP (λp=>!p.apart)+(if l[i].apart=true then 0 else 1)=l.countP (λp=>!p.apart)+(if p.apart=true then 0 else 1):=by
 have h1:l.countP (λp=>!p.apart)=(l[i]::l.eraseIdx i).countP (λp=>!p.apart):=List.Perm.countP_eq _ (erase_perm _ h)
 have hi:i<(l.set i p).length:=by simpa using h
 have h2:(l.set i p).countP (λp=>!p.apart)=((l.set i p)[i]::(l.set i p).eraseIdx i).countP (λp=>!p.apart):=List.Perm.countP_eq _ (erase_perm _ hi)
 rw[h1,h2,List.countP_cons,List.countP_cons,List.getElem_set_self,List.eraseIdx_set_eq]
 cases l[i].apart <;> cases p.apart <;> simp <;> omega
theorem WC.hold1 (h:WC k)(hi:i<k.n):WC (hold1 k i):=by
 unfold Go.Proofs.YtdilfdkendjjhaaGreat.hold1
 split
 · rename_i hb
   have hil:i<k.ps.length:=by rw[h.ps];exact hi
   have hp:=h.pet hi
   have hpe:peK k i=k.ps[i]:=by rw[peK,List.getD_eq_getElem?_getD,List.getElem?_eq_getElem hil];rfl
   refine h.peSet ⟨hp.1,hp.2.2⟩ hp.2.1 (λe he=>?_) ?_
   · rcases List.mem_append.1 he with he | he
     · exact h.evs e he
     · rw[List.mem_singleton]at he
       subst he
       have:=h.n
       exact⟨by simp,by simp,by simp;omega,hp.2.2.1,.inl rfl⟩
   · have hc:=count_set (p:={ peK k i with apart:=true }) hil
     rw[← hpe,hb.1]at hc
     have:=h.evn
     rw[List.length_append,List.length_singleton]
     simp at hc ⊢
     omega
 · exact h
end
section
variable {k:Ks}{i:Nat}
theorem hold1_eq (k:Ks)(i:Nat):∃ ps ev,hold1 k i={ k with ps:=ps,ev:=ev }∧ps.length=k.ps.length:=by
 unfold hold1
 split
 · exact⟨_,_,rfl,by simp⟩
 · exact⟨k.ps,k.ev,rfl,rfl⟩
theorem holdN_eq (k:Ks):∀ i,∃ ps ev,holdN k i={ k with ps:=ps,ev:=ev }∧ps.length=k.ps.length
 | 0=>⟨k.ps,k.ev,rfl,rfl⟩
 | i+1=>by
   obtain⟨ps,ev,h1,h2⟩:=holdN_eq k i
   obtain⟨ps',ev',h3,h4⟩:=hold1_eq (holdN k i) i
   refine⟨ps',ev',?_,?_⟩
   · rw[holdN,h3,h1]
   · rw[h4,h1];exact h2
theorem holdK_eq (k:Ks):∃ ps ev,holdK k={ k with ps:=ps,ev:=ev }∧ps.length=k.ps.length:=holdN_eq k _
theorem WC.holdN (h:WC k):∀ {i},i≤k.n→WC (holdN k i)
 | 0,_=>h
 | i+1,hi=>by
   rw[Go.Proofs.YtdilfdkendjjhaaGreat.holdN]
   refine (h.holdN (i:=i) (by omega)).hold1 ?_
   obtain⟨ps,ev,h1,_⟩:=holdN_eq k i
   rw[h1]
   show i<k.n
   omega
theorem WC.holdK (h:WC k):WC (holdK k):=h.holdN (by rw[h.ps];exact Nat.le_refl _)
theorem hold1_at (k:Ks)(i:Nat)(hi:i<k.ps.length):¬ badP (hold1 k i).mr (peK (hold1 k i) i):=by
 unfold hold1
 split
 · intro hb
   have:=hb.1
   simp[peK,hi]at this
 · assumption
theorem hold1_other (k:Ks){i j:Nat}(h:j≠i):peK (hold1 k i) j=peK k j:=by
 unfold hold1
 split
 · simp only[peK,List.getD_eq_getElem?_getD]
   rw[List.getElem?_set_ne (by omega)]
 · rfl
theorem hold1_mr (k:Ks)(i:Nat):(hold1 k i).mr=k.mr:=by
 obtain⟨ps,ev,h1,_⟩:=hold1_eq k i
 rw[h1]
theorem holdN_len (k:Ks)(i:Nat):(holdN k i).ps.length=k.ps.length:=by
 obtain⟨ps,ev,h1,h2⟩:=holdN_eq k i
 rw[h1];exact h2
theorem holdN_held (k:Ks):∀ {i j},i≤k.ps.length→j<i→¬ badP (holdN k i).mr (peK (holdN k i) j)
 | 0,_,_,h=>absurd h (by omega)
 | i+1,j,hi,hj=>by
   rw[Go.Proofs.YtdilfdkendjjhaaGreat.holdN]
   by_cases h:j=i
   · subst h
     exact hold1_at _ _ (by rw[holdN_len];omega)
   · rw[hold1_mr,hold1_other _ h]
     exact holdN_held k (by omega) (by omega)
theorem holdK_held (k:Ks):held (holdK k):=λi hi=>holdN_held k (Nat.le_refl _) (by rw[holdK,holdN_len]at hi;exact hi)
theorem held.holdN (h:held k):∀ {i},i≤k.ps.length→holdN k i=k
 | 0,_=>rfl
 | i+1,hi=>by
   rw[Go.Proofs.YtdilfdkendjjhaaGreat.holdN,h.holdN (i:=i) (by omega),hold1,if_neg (h i (by omega))]
theorem held.holdK (h:held k):holdK k=k:=h.holdN (Nat.le_refl _)
theorem held.of {k':Ks}(h:held k)(hm:k'.mr=k.mr)(hl:k'.ps.length=k.ps.length)(hp:∀ i,i<k.ps.length→(peK k' i).apart=(peK k i).apart∧(peK k' i).frame=(peK k i).frame∧(peK k' i).sum=(peK k i).sum):held k':=by
 intro i hi hb
 rw[hl]at hi
 obtain⟨h1,h2,h3⟩:=hp i hi
 refine h i hi ?_
 simp only[badP,hm,h1,h2,h3]at hb
 exact hb
theorem WC.mark (h:WC k){s:Nat}(hs:s<4294967296):WC (markK k s):=by
 unfold markK
 refine WC.holdK ?_
 split
 · exact { h with
     mr:=by show (k.mr++[s]).length≤1000;rw[List.length_append,List.length_singleton];omega
     mrs:=λx hx=>by
       rcases List.mem_append.1 hx with hx | hx
       · exact h.mrs x hx
       · rw[List.mem_singleton]at hx;rw[hx];exact hs }
 · exact h
theorem markK_eq (k:Ks)(s:Nat)(hl:k.mr.length<1000):∃ ps ev,markK k s={ k with ps:=ps,ev:=ev,mr:=k.mr++[s] }∧ps.length=k.ps.length:=by
 obtain⟨ps,ev,h1,h2⟩:=holdK_eq { k with mr:=k.mr++[s] }
 refine⟨ps,ev,?_,h2⟩
 rw[markK,if_pos hl,h1]
theorem press_ls {k:Ks}{b:UInt8}(h:(pressK b k).1=0):k.cl=false∧headK k<1000∧headK k<k.window+frontK k∧(pressK b k).2={ k with ls:=k.ls.set k.me (k.ls.getD k.me []++[b]) }:=by
 unfold pressK at h ⊢
 split at h
 · cases h
 · split at h
   · cases h
   · split at h
     · cases h
     · rename_i h1 h2 h3
       refine⟨by simpa using h1,by omega,by omega,?_⟩
       rw[if_neg h1,if_neg h2,if_neg h3]
theorem press_no {k:Ks}{b:UInt8}(h:(pressK b k).1≠0):(pressK b k).2=k:=by
 unfold pressK at h ⊢
 split
 · rfl
 · rename_i h1
   rw[if_neg h1]at h
   split
   · rfl
   · rename_i h2
     rw[if_neg h2]at h
     split
     · rfl
     · rename_i h3
       rw[if_neg h3]at h
       exact absurd rfl h
theorem WC.press (h:WC k)(b:UInt8):WC (pressK b k).2:=by
 by_cases h0:(pressK b k).1=0
 · obtain⟨h1,h2,h3,h4⟩:=press_ls h0
   rw[h4]
   exact { h with
     ls:=by show (k.ls.set _ _).length=_;rw[List.length_set];exact h.ls
     ln:=λl hl=>by
       rcases mem_set hl with hl | rfl
       · exact h.ln l hl
       · rw[List.length_append,List.length_singleton];simp only[headK]at h2;omega }
 · rw[press_no h0];exact h
theorem held.press (h:held k)(b:UInt8):held (pressK b k).2:=by
 by_cases h0:(pressK b k).1=0
 · obtain⟨h1,h2,h3,h4⟩:=press_ls h0
   rw[h4];exact h
 · rw[press_no h0];exact h
theorem WC.evTake (h:WC k):WC { k with ev:=[] } :=
 { h with
   evs:=λe he=>by cases he
   evn:=by have:=h.evn;show ([]:List (Nat×Nat×Nat)).length+_+_≤_;simp only[List.length_nil];omega }
theorem peK_set {k:Ks}{i j:Nat}{p:Pe}(hi:i<k.ps.length):(k.ps.set i p).getD j (pe0 0)=if j=i then p else peK k j:=by
 simp only[peK,List.getD_eq_getElem?_getD,List.getElem?_set]
 by_cases h:i=j
 · subst h
   simp[hi]
 · rw[if_neg h,if_neg (λe=>h e.symm)]
theorem count_same {k:Ks}{i:Nat}{p:Pe}(hi:i<k.ps.length)(ha:p.apart=(peK k i).apart):(k.ps.set i p).countP (λp=>!p.apart)=k.ps.countP (λp=>!p.apart):=by
 have hc:=count_set (p:=p) hi
 have hpe:peK k i=k.ps[i]:=by rw[peK,List.getD_eq_getElem?_getD,List.getElem?_eq_getElem hi];rfl
 rw[← hpe,ha]at hc
 omega
theorem WC.hear (h:WC k){p:Pk}(hp:mayPk p)(hs:p.sum<4294967296)(hn:p.from'<k.n)(hc:k.cl=false):WC (hearK k p)∧(held k→held (hearK k p)):=by
 have hf0:=hp.1.1
 have hil:p.from'.toNat<k.n:=by omega
 have hips:p.from'.toNat<k.ps.length:=by rw[h.ps];exact hil
 have hpt:=h.pet hil
 unfold hearK
 split
 · have hcs:=count_same (p:={ peK k p.from'.toNat with heard:=k.now }) hips rfl
   refine⟨h.peSet (p:={ peK k p.from'.toNat with heard:=k.now }) (cl:=true) ⟨hpt.1,hpt.2.2⟩ (Nat.le_refl _) (λe he=>?_) ?_,λhh=>hh.of rfl (by simp) λj hj=>?_⟩
   · rcases List.mem_append.1 he with he | he
     · exact h.evs e he
     · rw[List.mem_singleton]at he
       subst he
       have:=h.n
       exact⟨by simp,by simp,by show p.from'.toNat<8;omega,by simp,.inr rfl⟩
   · have:=h.evn
     rw[hc]at this
     rw[hcs,List.length_append,List.length_singleton]
     simp at this ⊢
     omega
   · show ((k.ps.set _ _).getD j _).apart=_∧((k.ps.set _ _).getD j _).frame=_∧((k.ps.set _ _).getD j _).sum=_
     rw[peK_set hips]
     split
     · rename_i h1;subst h1;exact⟨rfl,rfl,rfl⟩
     · exact⟨rfl,rfl,rfl⟩
 · refine⟨WC.holdK ?_,λ_=>holdK_held _⟩
   have hk:p.kind=1∧frP p.first∧frP p.ack∧frP p.frame∧p.press.length≤32:=by
     rcases hp.2.2.2.2 with h1 | h1
     · exact h1
     · rename_i h2;exact absurd h1.1 h2
   have hap:(hearP k.now (headK k) p (peK k p.from'.toNat)).apart=(peK k p.from'.toNat).apart:=by
     unfold hearP;simp only;split <;> rfl
   have hcs:=count_same (p:=hearP k.now (headK k) p (peK k p.from'.toNat)) hips hap
   have ha1:=hk.2.2.1
   have hf1:=hk.2.2.2.1
   simp only[frP]at ha1 hf1
   have hhd:=h.headt
   have hq:(hearP k.now (headK k) p (peK k p.from'.toNat)).has≤1000∧(hearP k.now (headK k) p (peK k p.from'.toNat)).frame≤1000∧(hearP k.now (headK k) p (peK k p.from'.toNat)).sum<4294967296∧(hearP k.now (headK k) p (peK k p.from'.toNat)).heard=k.now:=by
     unfold hearP
     simp only
     have h9:(if (peK k p.from'.toNat).has<p.ack.toNat∧p.ack.toNat≤headK k then p.ack.toNat else (peK k p.from'.toNat).has)≤1000:=by split <;> omega
     split
     · exact⟨h9,by show p.frame.toNat≤1000;omega,hs,rfl⟩
     · exact⟨h9,hpt.2.2.1,hpt.2.2.2,rfl⟩
   have h1:=h.peSet (p:=hearP k.now (headK k) p (peK k p.from'.toNat)) (i:=p.from'.toNat) (ev:=k.ev) (cl:=k.cl) ⟨hq.1,hq.2.1,hq.2.2.1⟩ (by rw[hq.2.2.2];exact Nat.le_refl _) h.evs (by rw[hcs];exact h.evn)
   have hln:=h.lnt hil
   exact { h1 with
     ls:=by show (k.ls.set _ _).length=_;rw[List.length_set];exact h.ls
     ln:=λl hl=>by
       rcases mem_set hl with hl | rfl
       · exact h.ln l hl
       · exact (putLn_len hln).2 }
theorem recv_ok {k:Ks}{bs:List UInt8}(h:(recvK bs k).1=0):∃ p,decO bs=some p∧k.cl=false∧p.to=k.me∧p.from'<k.n∧p.id=k.id∧(recvK bs k).2=hearK k p:=by
 unfold recvK at h ⊢
 split at h
 · cases h
 · rename_i h1
   rw[if_neg h1]
   cases hd:decO bs with
   | none=>rw[hd]at h;cases h
   | some p =>
     rw[hd]at h
     simp only at h ⊢
     split at h
     · cases h
     · rename_i h2
       rw[if_neg h2]
       have h3:p.to=k.me:=Decidable.of_not_not λhh=>h2 (.inl hh)
       have h4:p.id=k.id:=Decidable.of_not_not λhh=>h2 (.inr (.inr hh))
       have h5:p.from'<k.n:=Int.not_le.1 λhh=>h2 (.inr (.inl hh))
       exact⟨p,rfl,by simpa using h1,h3,h5,h4,rfl⟩
theorem recv_no {k:Ks}{bs:List UInt8}(h:(recvK bs k).1≠0):(recvK bs k).2=k:=by
 unfold recvK at h ⊢
 split
 · rfl
 · rename_i h1
   rw[if_neg h1]at h
   cases hd:decO bs with
   | none=>rfl
   | some p =>
     rw[hd]at h
     simp only at h ⊢
     split
     · rfl
     · rename_i h2
       rw[if_neg h2]at h
       exact absurd rfl h
theorem WC.recv (h:WC k)(bs:List UInt8):WC (recvK bs k).2∧(held k→held (recvK bs k).2):=by
 by_cases h0:(recvK bs k).1=0
 · obtain⟨p,h1,h2,h3,h4,h5,h6⟩:=recv_ok h0
   obtain⟨h7,h8,h9⟩:=decO_is h1
   rw[h6]
   exact h.hear h7 h8 h4 h2
 · rw[recv_no h0];exact⟨h,λh=>h⟩
theorem othersK_mem {k:Ks}{i:Nat}:i∈othersK k↔i<k.n∧i≠k.me:=by simp[othersK]
theorem WC.nowUp (h:WC k):WC { k with now:=k.now+1 }:={ h with now:=λp hp=>Nat.le_succ_of_le (h.now p hp) }
theorem WC.late (h:WC k){i:Nat}(hi:i<8)(hc:k.cl=false):WC { k with ev:=k.ev++[(2,i,0)],cl:=true } :=
 { h with
   evs:=λe he=>by
     rcases List.mem_append.1 he with he | he
     · exact h.evs e he
     · rw[List.mem_singleton]at he
       subst he
       exact⟨by simp,by simp,hi,by simp,.inr rfl⟩
   evn:=by
     have:=h.evn
     rw[hc]at this
     rw[List.length_append,List.length_singleton]
     simp at this ⊢
     omega }
theorem tickK_k (k:Ks):(tickK k).2=k∨(k.cl=false∧((tickK k).2={ k with now:=k.now+1 }∨∃ i,i<k.n∧(tickK k).2={ k with now:=k.now+1,ev:=k.ev++[(2,i,0)],cl:=true })):=by
 unfold tickK
 split
 · exact .inl rfl
 · rename_i hc
   refine .inr ⟨by simpa using hc,?_⟩
   simp only
   cases hf:(othersK { k with now:=k.now+1 }).find? (λi=>decide (lateP { k with now:=k.now+1 } i)) with
   | none=>exact .inl rfl
   | some i=>exact .inr ⟨i,(othersK_mem.1 (List.mem_of_find?_eq_some hf)).1,rfl⟩
theorem WC.tick (h:WC k):WC (tickK k).2∧(held k→held (tickK k).2):=by
 rcases tickK_k k with h1 | ⟨hc,h1 | ⟨i,hi,h1⟩⟩
 · rw[h1];exact⟨h,λh=>h⟩
 · rw[h1];exact⟨h.nowUp,λh=>h⟩
 · rw[h1]
   have:=h.n
   exact⟨(h.nowUp).late (by omega) hc,λh=>h⟩
theorem WC.quit (h:WC k):WC (quitK k).2∧(held k→held (quitK k).2):=by
 unfold quitK
 split
 · exact⟨h,λh=>h⟩
 · rename_i hc
   refine⟨{ h with evn:=?_ },λh=>h⟩
   have:=h.evn
   have hc':k.cl=false:=by simpa using hc
   rw[hc']at this
   simp at this ⊢
   omega
theorem WC.new {c:Cf}(h:mayCf c):WC (newK c)∧held (newK c)∧ksCf (newK c)=c:=by
 obtain⟨⟨h1,h2,h3⟩,⟨h4,h5,h6,h7⟩,h8,h9,h10,h11⟩:=h
 simp only[inI] at *
 refine⟨⟨?_,?_,?_,?_,?_,?_,?_,?_,?_,?_,?_,?_,?_,?_⟩,?_,?_⟩
 · show 2≤c.n.toNat∧c.n.toNat≤8;omega
 · show c.me.toNat<c.n.toNat;omega
 · exact h3
 · show c.delay.toNat≤8;omega
 · show 1≤c.window.toNat∧c.window.toNat≤16;omega
 · simp[newK]
 · simp[newK]
 · intro l hl
   simp[newK]at hl
   rw[hl.2,List.length_replicate];omega
 · simp[newK]
 · intro s hs;cases hs
 · intro p hp
   simp[newK]at hp
   rw[hp.2];exact Nat.zero_le _
 · intro p hp
   simp[newK]at hp
   rw[hp.2]
   refine⟨?_,?_,?_⟩ <;> simp[pe0];omega
 · intro e he;cases he
 · simp[newK,List.countP_replicate,pe0]
 · intro i hi hb
   have h1:(peK (newK c) i).frame≤0:=hb.2.2.1
   have h2:=hb.2.1
   omega
 · show Cf.mk _ _ _ _ _ _ _ _ _ _=c
   simp only[newK]
   rw[Int.toNat_of_nonneg (by omega),Int.toNat_of_nonneg (by omega),Int.toNat_of_nonneg (by omega),Int.toNat_of_nonneg (by omega)]
end
theorem oneI_ok {p:Pr}{fr:Int}{b:List UInt8}{g:Nat→Int}{at':Nat}{o:OpR}{m:Int}(hg:gOk g)(ho:okOp m o):gOk (oneI p fr b g at' o).1:=by
 have hop:=ho
 simp only[okOp,cellP]at hop
 unfold oneI
 split
 · exact hg
 · split
   · exact hg
   · split
     · exact hg
     · split
       · exact upd_ok hg (hg _ (by omega))
       · exact upd_ok hg (value_ok hg ho (by assumption) (by assumption))
theorem runI_ok {p:Pr}{fr:Int}{b:List UInt8}(hp:prOk p):∀ (n:Nat) {g:Nat→Int} {at':Nat},gOk g→gOk (runI p fr b n g at')
 | 0,_,_,hg=>hg
 | n+1,g,at',hg=>by
   cases ho:p.ops[at']? with
   | none =>
     rw [runI_end (by rcases Nat.lt_or_ge at' p.ops.length with h | h; · rw [List.getElem?_eq_getElem h] at ho; cases ho
                      · exact h)];exact hg
   | some o =>
     have h1:=oneI_ok (p:=p) (fr:=fr) (b:=b) (at':=at') hg (hp.2 o (List.mem_of_getElem? ho))
     rw[runI_step ho]
     split
     · exact runI_ok hp n h1
     · exact h1
theorem frameI_ok {p:Pr}{fr:Int}{b:List UInt8}{g:Nat→Int}(hp:prOk p)(hg:gOk g):gOk (frameI p fr b g):=runI_ok hp 200 hg
theorem foldI_ok {p:Pr}(hp:prOk p):∀ (l:List (List UInt8)) {fr:Int} {g:Nat→Int},gOk g→gOk (foldI p fr g l)
 | [],_,_,hg=>hg
 | b::l,_,_,hg=>foldI_ok hp l (frameI_ok hp hg)
structure Pl where
 k:Ks
 g:Nat→Int
def play1 (p:Pr)(s:Pl):Pl:=⟨markK s.k (crcSum (gameB (frameI p s.k.mr.length (jointL s.k.ls s.k.mr.length) s.g))),frameI p s.k.mr.length (jointL s.k.ls s.k.mr.length) s.g⟩
def playN (p:Pr):Nat→Pl→Pl
 | 0,s=>s
 | n+1,s=>playN p n (play1 p s)
theorem playN_succ (p:Pr):∀ (n:Nat) (s:Pl),playN p (n+1) s=play1 p (playN p n s)
 | 0,_=>rfl
 | n+1,s=>by rw[playN,playN_succ p n (play1 p s)];rfl
def playP (p:Pr)(s:Pl):Pl:=playN p (frontK s.k-s.k.mr.length) s
def zeroG:Nat→Int:=λ_=>0
theorem zeroG_ok:gOk zeroG:=λ_ _=>⟨by simp[zeroG],by simp[zeroG]⟩
def gameAt (p:Pr)(ls:List (List UInt8))(f:Nat):Nat→Int:=foldI p 0 zeroG ((List.range f).map (jointL ls))
def markAt (p:Pr)(ls:List (List UInt8))(f:Nat):Nat:=crcSum (gameB (gameAt p ls (f+1)))
theorem gameAt_succ (p:Pr)(ls:List (List UInt8))(f:Nat):gameAt p ls (f+1)=frameI p f (jointL ls f) (gameAt p ls f):=by
 rw[gameAt,List.range_succ,List.map_append,List.map_singleton,foldI_snoc,List.length_map,List.length_range,Int.zero_add];rfl
def Ext (ls ls':List (List UInt8)):Prop:=ls'.length=ls.length∧∀ i:Nat,i<ls.length→∃ t,ls'.getD i []=ls.getD i []++t
theorem Ext.refl (ls:List (List UInt8)):Ext ls ls:=⟨rfl,λi _=>⟨[],by simp⟩⟩
theorem Ext.set {ls:List (List UInt8)}{i:Nat}{t:List UInt8}:Ext ls (ls.set i (ls.getD i []++t)):=by
 refine⟨by simp,λj hj=>?_⟩
 by_cases h:i=j
 · subst h;exact⟨t,by simp[List.getD_eq_getElem?_getD,hj]⟩
 · exact⟨[],by simp[List.getD_eq_getElem?_getD,List.getElem?_set_ne h]⟩
theorem getD_map {ls:List (List UInt8)}{f i:Nat}(h:i<ls.length):(jointL ls f)[i]?=some ((ls.getD i []).getD f 0):=by
 rw[jointL,List.getElem?_map,List.getElem?_eq_getElem h,List.getD_eq_getElem?_getD (l:=ls),List.getElem?_eq_getElem h];rfl
theorem Ext.joint {ls ls':List (List UInt8)}(h:Ext ls ls'){f:Nat}(hf:f<frontL ls):jointL ls' f=jointL ls f:=by
 apply List.ext_getElem?
 intro i
 by_cases hi:i<ls.length
 · rw[getD_map (by rw[h.1];exact hi),getD_map hi]
   obtain⟨t,ht⟩:=h.2 i hi
   have hl:=frontL_le (ln_mem hi)
   rw[ht,List.getD_eq_getElem?_getD,List.getElem?_append_left (by omega),← List.getD_eq_getElem?_getD]
 · rw[List.getElem?_eq_none (by rw[jointL_len,h.1];omega),List.getElem?_eq_none (by rw[jointL_len];omega)]
theorem Ext.front {ls ls':List (List UInt8)}(h:Ext ls ls')(h0:ls≠[]):frontL ls≤frontL ls':=by
 refine frontL_ge (λh1=>?_) λl hl=>?_
 · have:=h.1
   rw[h1]at this
   exact h0 (List.eq_nil_of_length_eq_zero this.symm)
 · obtain⟨i,hi,rfl⟩:=List.getElem_of_mem hl
   have hi':i<ls.length:=by rw[← h.1];exact hi
   obtain⟨t,ht⟩:=h.2 i hi'
   have h3:=frontL_le (ln_mem hi')
   rw[List.getD_eq_getElem?_getD,List.getElem?_eq_getElem hi]at ht
   simp only[Option.getD_some]at ht
   rw[ht,List.length_append];omega
theorem Ext.gameAt {ls ls':List (List UInt8)}(h:Ext ls ls'){p:Pr}{f:Nat}(hf:f≤frontL ls):gameAt p ls' f=gameAt p ls f:=by
 unfold Go.Proofs.YtdilfdkendjjhaaGreat.gameAt
 congr 1
 refine List.map_congr_left λi hi=>h.joint ?_
 rw[List.mem_range]at hi;omega
theorem Ext.markAt {ls ls':List (List UInt8)}(h:Ext ls ls'){p:Pr}{f:Nat}(hf:f<frontL ls):markAt p ls' f=markAt p ls f:=by
 rw[Go.Proofs.YtdilfdkendjjhaaGreat.markAt,h.gameAt (by omega)];rfl
structure WP (p:Pr)(s:Pl):Prop where
 wc:WC s.k
 held:held s.k
 low:s.k.mr.length≤frontK s.k
 game:s.g=gameAt p s.k.ls s.k.mr.length
 marks:s.k.mr=(List.range s.k.mr.length).map (markAt p s.k.ls)
section
variable {p:Pr}{s:Pl}
theorem WP.gok (h:WP p s)(hp:prOk p):gOk s.g:=by rw[h.game];exact foldI_ok hp _ zeroG_ok
theorem WC.lne {k:Ks}(h:WC k):k.ls≠[]:=λe=>by
 have:=h.ls
 have:=h.n
 rw[e] at *
 simp at *
 omega
theorem WP.one (h:WP p s)(hl:s.k.mr.length<frontK s.k):WP p (play1 p s)∧(play1 p s).k.ls=s.k.ls∧(play1 p s).k.mr.length=s.k.mr.length+1:=by
 have h9:=h.wc.frontt
 have h8:=h.wc.headt
 obtain⟨ps,ev,h1,h2⟩:=markK_eq s.k (crcSum (gameB (frameI p s.k.mr.length (jointL s.k.ls s.k.mr.length) s.g))) (by omega)
 have hk:(play1 p s).k={ s.k with ps:=ps,ev:=ev,mr:=s.k.mr++[crcSum (gameB (frameI p s.k.mr.length (jointL s.k.ls s.k.mr.length) s.g))] }:=h1
 have hm:(play1 p s).k.mr.length=s.k.mr.length+1:=by rw[hk];simp
 have hls:(play1 p s).k.ls=s.k.ls:=by rw[hk]
 have hg:frameI p s.k.mr.length (jointL s.k.ls s.k.mr.length) s.g=gameAt p s.k.ls (s.k.mr.length+1):=by rw[gameAt_succ,h.game]
 refine⟨⟨h.wc.mark (crcSum_lt _),?_,?_,?_,?_⟩,hls,hm⟩
 · show Go.Proofs.YtdilfdkendjjhaaGreat.held (markK _ _)
   rw[markK];exact holdK_held _
 · rw[hm,frontK,hls];exact hl
 · rw[hm,hls];exact hg
 · rw[hm,hls,hk,List.range_succ,List.map_append,← h.marks,hg];rfl
theorem WP.play:∀ (n:Nat) {s:Pl},WP p s→n≤frontK s.k-s.k.mr.length→WP p (playN p n s)∧(playN p n s).k.ls=s.k.ls∧(playN p n s).k.mr.length=s.k.mr.length+n
 | 0,_,h,_=>⟨h,rfl,rfl⟩
 | n+1,s,h,hn=>by
   obtain⟨h1,h2,h3⟩:=h.one (by omega)
   obtain⟨h4,h5,h6⟩:=h1.play n (by rw[frontK,h2,h3];simp only[frontK]at hn;omega)
   exact⟨h4,h5.trans h2,by rw[playN,h6,h3];omega⟩
theorem play1_eq (h:s.k.mr.length<1000):∃ ps ev mr,(play1 p s).k={ s.k with ps:=ps,ev:=ev,mr:=mr }:=by
 obtain⟨ps,ev,h1,h2⟩:=markK_eq s.k (crcSum (gameB (frameI p s.k.mr.length (jointL s.k.ls s.k.mr.length) s.g))) h
 exact⟨ps,ev,_,h1⟩
theorem WP.play_eq:∀ (n:Nat) {s:Pl},WP p s→n≤frontK s.k-s.k.mr.length→∃ ps ev mr,(playN p n s).k={ s.k with ps:=ps,ev:=ev,mr:=mr }
 | 0,s,h,_=>⟨s.k.ps,s.k.ev,s.k.mr,rfl⟩
 | n+1,s,h,hn=>by
   have h9:=h.wc.frontt
   have h8:=h.wc.headt
   obtain⟨h1,h2,h3⟩:=h.one (by omega)
   obtain⟨ps,ev,mr,h4⟩:=h1.play_eq n (by rw[frontK,h2,h3];simp only[frontK]at hn;omega)
   obtain⟨ps',ev',mr',h5⟩:=play1_eq (p:=p) (s:=s) (by omega)
   exact⟨ps,ev,mr,by rw[playN,h4,h5]⟩
structure WF' (p:Pr)(s:Pl):Prop extends WP p s where
 full:s.k.mr.length=frontK s.k
theorem WP.playP (h:WP p s):WF' p (playP p s)∧(playP p s).k.ls=s.k.ls∧∃ ps ev mr,(Go.Proofs.YtdilfdkendjjhaaGreat.playP p s).k={ s.k with ps:=ps,ev:=ev,mr:=mr }:=by
 obtain⟨h1,h2,h3⟩:=h.play _ (Nat.le_refl _)
 have hl:=h.low
 refine⟨⟨h1,?_⟩,h2,h.play_eq _ (Nat.le_refl _)⟩
 show (playN p _ s).k.mr.length=frontL (playN p _ s).k.ls
 rw[h3,h2]
 show _=frontK s.k
 omega
theorem WF'.playP (h:WF' p s):playP p s=s:=by rw[Go.Proofs.YtdilfdkendjjhaaGreat.playP,h.full,Nat.sub_self];rfl
theorem WP.more {k':Ks}(h:WP p s)(hw:WC k')(hh:Go.Proofs.YtdilfdkendjjhaaGreat.held k')(hm:k'.mr=s.k.mr)(he:Ext s.k.ls k'.ls):WP p ⟨k',s.g⟩:=by
 have hf:=he.front h.wc.lne
 have hl:=h.low
 refine⟨hw,hh,?_,?_,?_⟩
 · show k'.mr.length≤frontL k'.ls
   rw[hm];simp only[frontK]at hl;omega
 · show s.g=gameAt p k'.ls k'.mr.length
   rw[hm,he.gameAt hl];exact h.game
 · show k'.mr=(List.range k'.mr.length).map (markAt p k'.ls)
   rw[hm]
   conv=>lhs;rw[h.marks]
   refine List.map_congr_left λi hi=>?_
   rw[List.mem_range]at hi
   simp only[frontK]at hl
   rw[he.markAt (by omega)]
def pressP (p:Pr)(b:UInt8)(s:Pl):Int×Pl:=((pressK b s.k).1,playP p ⟨(pressK b s.k).2,s.g⟩)
noncomputable def recvP (p:Pr)(bs:List UInt8)(s:Pl):Int×Pl:=((recvK bs s.k).1,playP p ⟨(recvK bs s.k).2,s.g⟩)
def confP (s:Pl):List UInt8×Nat:=(gameB s.g,frontK s.k)
theorem putLn_ext (l:List UInt8)(f:Nat)(b:List UInt8):∃ t,putLn l f b=l++t:=by
 unfold putLn
 split
 · exact⟨[],by simp⟩
 · exact⟨_,rfl⟩
theorem hear_ls {k:Ks}{p:Pk}:(hearK k p).mr=k.mr∧Ext k.ls (hearK k p).ls:=by
 unfold hearK
 split
 · exact⟨rfl,Ext.refl _⟩
 · obtain⟨ps,ev,h1,_⟩:=holdK_eq { k with ls:=k.ls.set p.from'.toNat (putLn (k.ls.getD p.from'.toNat []) p.first.toNat p.press),ps:=k.ps.set p.from'.toNat (hearP k.now (headK k) p (peK k p.from'.toNat)) }
   rw[h1]
   obtain⟨t,ht⟩:=putLn_ext (k.ls.getD p.from'.toNat []) p.first.toNat p.press
   refine⟨rfl,?_⟩
   show Ext k.ls (k.ls.set _ _)
   rw[ht];exact Ext.set
theorem press_ext (b:UInt8)(k:Ks):(pressK b k).2.mr=k.mr∧Ext k.ls (pressK b k).2.ls:=by
 by_cases h0:(pressK b k).1=0
 · obtain⟨h1,h2,h3,h4⟩:=press_ls h0
   rw[h4];exact⟨rfl,Ext.set⟩
 · rw[press_no h0];exact⟨rfl,Ext.refl _⟩
theorem recv_ext (bs:List UInt8)(k:Ks):(recvK bs k).2.mr=k.mr∧Ext k.ls (recvK bs k).2.ls:=by
 by_cases h0:(recvK bs k).1=0
 · obtain⟨p,h1,h2,h3,h4,h5,h6⟩:=recv_ok h0
   rw[h6];exact hear_ls
 · rw[recv_no h0];exact⟨rfl,Ext.refl _⟩
theorem WF'.press (h:WF' p s)(b:UInt8):WF' p (pressP p b s).2:=by
 have h1:=press_ext b s.k
 exact (h.toWP.more (h.wc.press b) (h.held.press b) h1.1 h1.2).playP.1
theorem WF'.recv (h:WF' p s)(bs:List UInt8):WF' p (recvP p bs s).2:=by
 have h1:=recv_ext bs s.k
 exact (h.toWP.more (h.wc.recv bs).1 ((h.wc.recv bs).2 h.held) h1.1 h1.2).playP.1
theorem WF'.with {k':Ks}(h:WF' p s)(hw:WC k')(hh:Go.Proofs.YtdilfdkendjjhaaGreat.held k')(hm:k'.mr=s.k.mr)(he:k'.ls=s.k.ls):WF' p ⟨k',s.g⟩:=by
 refine⟨h.toWP.more hw hh hm (by rw[he];exact Ext.refl _),?_⟩
 show k'.mr.length=frontL k'.ls
 rw[hm,he];exact h.full
theorem tick_same (k:Ks):(tickK k).2.mr=k.mr∧(tickK k).2.ls=k.ls:=by
 rcases tickK_k k with h1 | ⟨hc,h1 | ⟨i,hi,h1⟩⟩ <;> rw[h1] <;> exact⟨rfl,rfl⟩
theorem quit_same (k:Ks):(quitK k).2.mr=k.mr∧(quitK k).2.ls=k.ls:=by
 unfold quitK
 split <;> exact⟨rfl,rfl⟩
theorem WF'.tick (h:WF' p s):WF' p ⟨(tickK s.k).2,s.g⟩:=h.with h.wc.tick.1 (h.wc.tick.2 h.held) (tick_same _).1 (tick_same _).2
theorem WF'.quit (h:WF' p s):WF' p ⟨(quitK s.k).2,s.g⟩:=h.with h.wc.quit.1 (h.wc.quit.2 h.held) (quit_same _).1 (quit_same _).2
theorem WF'.told (h:WF' p s):WF' p ⟨{ s.k with ev:=[] },s.g⟩:=h.with h.wc.evTake (λi hi=>h.held i hi) rfl rfl
def newP (p:Pr)(c:Cf):Pl:=playP p ⟨newK c,zeroG⟩
theorem newP_ok {c:Cf}(h:mayCf c):WP p ⟨newK c,zeroG⟩:=by
 obtain⟨h1,h2,h3⟩:=WC.new h
 exact⟨h1,h2,Nat.zero_le _,rfl,rfl⟩
theorem WF'.new {c:Cf}(h:mayCf c):WF' p (newP p c):=(newP_ok h).playP.1
end
structure Two (p:Pr)(win me:Nat)(ls:List (List UInt8))(s:Pl):Prop where
 wf:WF' p s
 n:s.k.n=2
 me:s.k.me=me
 id:s.k.id=0
 cl:s.k.cl=false
 win:s.k.window=win
 now:s.k.now=0
 ls:s.k.ls=ls
section
variable {p:Pr}{win me:Nat}{ls:List (List UInt8)}{s:Pl}{k:Ks}
theorem playP_same (h:WP p s):(playP p s).k.n=s.k.n∧(playP p s).k.me=s.k.me∧(playP p s).k.id=s.k.id∧(playP p s).k.cl=s.k.cl∧(playP p s).k.window=s.k.window∧(playP p s).k.now=s.k.now∧(playP p s).k.ls=s.k.ls:=by
 obtain⟨_,h2,ps,ev,mr,h3⟩:=h.playP
 rw[h3];exact⟨rfl,rfl,rfl,rfl,rfl,rfl,rfl⟩
theorem Two.new {id:Int}{cf:Cf}(h:mayCf cf)(hc:cf=⟨2,me,0,0,win,cf.guess,cf.order,cf.branches,cf.workers,cf.room⟩):Two p win me [[],[]] (newP p cf):=by
 obtain⟨h1,h2,h3,h4,h5,h6,h7⟩:=playP_same (newP_ok (p:=p) h)
 refine⟨WF'.new h,?_,?_,?_,?_,?_,?_,?_⟩
 · rw[newP,h1,hc];rfl
 · rw[newP,h2,hc];rfl
 · rw[newP,h3,hc];rfl
 · rw[newP,h4];rfl
 · rw[newP,h5,hc];rfl
 · rw[newP,h6];rfl
 · rw[newP,h7,hc];rfl
theorem Two.head (h:Two p win me ls s):headK s.k=(ls.getD me []).length:=by rw[headK,h.ls,h.me]
theorem Two.front (h:Two p win me ls s):frontK s.k=frontL ls:=by rw[frontK,h.ls]
theorem Two.press (h:Two p win me ls s)(x:UInt8)(h1:(ls.getD me []).length<1000)(h2:(ls.getD me []).length<win+frontL ls):(pressP p x s).1=0∧Two p win me (ls.set me (ls.getD me []++[x])) (pressP p x s).2:=by
 have hk:pressK x s.k=(0,{ s.k with ls:=ls.set me (ls.getD me []++[x]) }):=by
   rw[pressK,if_neg (by rw[h.cl];decide),if_neg (by rw[h.head];omega),if_neg (by rw[h.head,h.win,h.front];omega),show s.k.ls.set s.k.me (s.k.ls.getD s.k.me []++[x])=ls.set me (ls.getD me []++[x]) from by rw[h.ls,h.me]]
 have he:=press_ext x s.k
 have hwp:=h.wf.toWP.more (h.wf.wc.press x) (h.wf.held.press x) he.1 he.2
 obtain⟨g1,g2,g3,g4,g5,g6,g7⟩:=playP_same hwp
 refine⟨by rw[pressP,hk],h.wf.press x,?_,?_,?_,?_,?_,?_,?_⟩
 · rw[pressP,g1,hk];exact h.n
 · rw[pressP,g2,hk];exact h.me
 · rw[pressP,g3,hk];exact h.id
 · rw[pressP,g4,hk];exact h.cl
 · rw[pressP,g5,hk];exact h.win
 · rw[pressP,g6,hk];exact h.now
 · rw[pressP,g7,hk]
theorem encO_len (p:Pk):(encO p).length≤507:=by
 unfold encO
 split
 · rename_i h
   have:=midPk_len h
   rw[encPk_len];omega
 · simp
end
end
section
def isFace:TypeDesc→Bool | .interface _=>true | _=>false
section
variable {P:Program}{a:Act}{w:World}{n:Nat}{l:List (Nat×Value)}{v:Value}
theorem ex_assertT {x t xT dd dst ty ps af g}(ha:Fr a n l)(ht:P.underlying t=some dd)(hd:isFace dd=false)[e:Ev l x (.iface t v)] :
   (execOp a.eval ⟨dst,.typeAssert x xT t true,ty,ps,af,g⟩).run P w=.ok (.value (.tuple #[v,.bool true])) w:=by
 cases dd <;> first | (simp[isFace]at hd) | skip
 all_goals simp[execOp,e.ev a n ha,Instr.typeAssert,run_underlying ht]
theorem ex_assertF {x t t' xT dd dst z sz by' ty ps af g}(ha:Fr a n l)(ht:P.underlying t=some dd)(hd:isFace dd=false)(hi:TI P t z sz by')(hn:Nat.beq t' t=false)[e:Ev l x (.iface t' v)] :
   (execOp a.eval ⟨dst,.typeAssert x xT t true,ty,ps,af,g⟩).run P w=.ok (.value (.tuple #[z,.bool false])) w:=by
 have hne:¬ t'=t:=λh=>by rw[h,Nat.beq_refl]at hn;cases hn
 cases dd <;> first | (simp[isFace]at hd) | skip
 all_goals simp[execOp,e.ev a n ha,Instr.typeAssert,run_underlying ht,run_zero hi,hne]
end
abbrev Evt:=Nat×Nat×Nat
def evOk (e:Evt):Prop:=e.1≤3∧1≤e.1∧e.2.1<8∧e.2.2≤1000∧(e.1=3∨e.2.2=0)
def evV (e:Evt):Value:=if e.1=1 then .iface 310 (.agg #[.int .i64 e.2.1]) else if e.1=2 then .iface 311 (.agg #[.int .i64 e.2.1]) else .iface 313 (.agg #[.int .i64 e.2.1,.int .i64 e.2.2])
theorem evV_one (e:Evt):(evV e).oneCell'=true:=by
 unfold evV
 split
 · rfl
 · split <;> rfl
instance {e:Evt}:One (evV e):=⟨evV_one e⟩
abbrev rawC (e:Evt):List Value:=[.int .i64 e.1,.int .i64 e.2.1,.int .i64 e.2.2]
theorem rawC_len (e:Evt):(rawC e).length=3:=rfl
theorem rawC_one (e:Evt):∀ v∈rawC e,v.oneCell'=true:=by
 intro v hv
 simp[rawC]at hv
 rcases hv with rfl | rfl | rfl <;> rfl
section
variable {W w:World}{L:List SP}{e:Evt}
theorem event_of (hs:St W w L)(h:evOk e):Calls Tryz.prog 239 #[.agg (rawC e).toArray] w λr w'=>r=.returned (.tuple #[.agg #[evV e],.bool true])∧St W w' L:=by
 obtain⟨h1,h2,h3,h4,h5⟩:=h
 refine EN Tryz.func239 Tryz.ntmps239 rfl rfl λa ha=>?_
 refine BX 1 ha hs λb1 a w ha hs=>?_
 change St W w (blk b1 223 (rawC e)::_) at hs
 refine AL 0 ha hs λb2 a w ha hs=>?_
 refine RN 7 ha hs λa ha=>?_
 rw[decide_eq_false (by omega)]at ha
 refine RN 5 ha hs λa ha=>?_
 rw[decide_eq_false (by omega)]at ha
 refine RN 5 ha hs λa ha=>?_
 rw[decide_eq_false (by omega)]at ha
 refine RN 5 ha hs λa ha=>?_
 rw[decide_eq_false (by omega)]at ha
 refine BY 4 ha hs (λhg22 a ha=>?_) λhg22 a ha=>?_
 ·
  refine RN 5 ha hs λa ha=>?_
  rw[decide_eq_false (by omega)]at ha
  refine IF 8 ha hs (λhc1 a ha=>?_) λhc1 a ha=>?_
  ·
   refine SA 6 ha hs λa w ha hs=>?_
   refine RT 1 ha hs ?_
   exact⟨by rw[evV,if_pos (by omega)],hs.sub⟩
  refine IF 3 ha hs (λhc2 a ha=>?_) λhc2 a ha=>?_
  ·
   refine SA 6 ha hs λa w ha hs=>?_
   refine RT 1 ha hs ?_
   exact⟨by rw[evV,if_neg (by omega),if_pos (by omega)],hs.sub⟩
  refine IF 3 ha hs (λhc3 a ha=>?_) λhc3 a ha=>?_
  ·
   refine SA 8 ha hs λa w ha hs=>?_
   refine RT 1 ha hs ?_
   exact⟨by rw[evV,if_neg (by omega),if_neg (by omega)],hs.sub⟩
  exfalso;omega
 refine IF 13 ha hs (λhc1 a ha=>?_) λhc1 a ha=>?_
 ·
  refine SA 6 ha hs λa w ha hs=>?_
  refine RT 1 ha hs ?_
  exact⟨by rw[evV,if_pos (by omega)],hs.sub⟩
 refine IF 3 ha hs (λhc2 a ha=>?_) λhc2 a ha=>?_
 ·
  refine SA 6 ha hs λa w ha hs=>?_
  refine RT 1 ha hs ?_
  exact⟨by rw[evV,if_neg (by omega),if_pos (by omega)],hs.sub⟩
 refine IF 3 ha hs (λhc3 a ha=>?_) λhc3 a ha=>?_
 ·
  refine SA 8 ha hs λa w ha hs=>?_
  refine RT 1 ha hs ?_
  exact⟨by rw[evV,if_neg (by omega),if_neg (by omega)],hs.sub⟩
 exfalso;omega
theorem event_raw1 (hs:St W w L)(h:evOk e)(hk:e.1=1):Calls Tryz.prog 165 #[.agg #[evV e]] w λr w'=>r=.returned (.agg (rawC e).toArray)∧St W w' L:=by
 have he:evV e=.iface 310 (.agg #[.int .i64 e.2.1]):=by rw[evV,if_pos hk]
 have hz:e.2.2=0:=by have:=h.2.2.2.2;omega
 rw[he]
 refine EN Tryz.func165 Tryz.ntmps165 rfl rfl λa ha=>?_
 refine BX 1 ha hs λb1 a w ha hs=>?_
 refine AL 0 ha hs λb2 a w ha hs=>?_
 refine RN 5 ha hs λa ha=>?_
 refine SK (st_set ha rfl (ex_assertT ha Tryz.underlying310 rfl) rfl ?_);clear ha a;intro a ha
 refine RN 2 ha hs λa ha=>?_
 replace ha:=ha.isT 9
 refine AL 2 ha hs λb3 a w ha hs=>?_
 skip
 refine SA 0 ha hs λa w ha hs=>?_
 refine SA 4 ha hs λa w ha hs=>?_
 refine RT 0 ha hs ?_
 exact⟨by rw[rawC,hk,hz];rfl,hs.sub⟩
theorem event_raw2 (hs:St W w L)(h:evOk e)(hk:e.1=2):Calls Tryz.prog 165 #[.agg #[evV e]] w λr w'=>r=.returned (.agg (rawC e).toArray)∧St W w' L:=by
 have he:evV e=.iface 311 (.agg #[.int .i64 e.2.1]):=by rw[evV,if_neg (by omega),if_pos hk]
 have hz:e.2.2=0:=by have:=h.2.2.2.2;omega
 rw[he]
 refine EN Tryz.func165 Tryz.ntmps165 rfl rfl λa ha=>?_
 refine BX 1 ha hs λb1 a w ha hs=>?_
 refine AL 0 ha hs λb2 a w ha hs=>?_
 refine RN 5 ha hs λa ha=>?_
 refine SK (st_set ha rfl (ex_assertF ha Tryz.underlying310 rfl Ty.t310 rfl) rfl ?_);clear ha a;intro a ha
 refine RN 2 ha hs λa ha=>?_
 replace ha:=ha.isF 9
 refine RN 2 ha hs λa ha=>?_
 refine SK (st_set ha rfl (ex_assertT ha Tryz.underlying311 rfl) rfl ?_);clear ha a;intro a ha
 refine RN 2 ha hs λa ha=>?_
 replace ha:=ha.isT 15
 refine AL 2 ha hs λb4 a w ha hs=>?_
 refine SA 0 ha hs λa w ha hs=>?_
 refine SA 4 ha hs λa w ha hs=>?_
 refine RT 0 ha hs ?_
 exact⟨by rw[rawC,hk,hz];rfl,hs.sub⟩
theorem event_raw3 (hs:St W w L)(h:evOk e)(hk:e.1=3):Calls Tryz.prog 165 #[.agg #[evV e]] w λr w'=>r=.returned (.agg (rawC e).toArray)∧St W w' L:=by
 have he:evV e=.iface 313 (.agg #[.int .i64 e.2.1,.int .i64 e.2.2]):=by rw[evV,if_neg (by omega),if_neg (by omega)]
 rw[he]
 refine EN Tryz.func165 Tryz.ntmps165 rfl rfl λa ha=>?_
 refine BX 1 ha hs λb1 a w ha hs=>?_
 refine AL 0 ha hs λb2 a w ha hs=>?_
 refine RN 5 ha hs λa ha=>?_
 refine SK (st_set ha rfl (ex_assertF ha Tryz.underlying310 rfl Ty.t310 rfl) rfl ?_);clear ha a;intro a ha
 refine RN 2 ha hs λa ha=>?_
 replace ha:=ha.isF 9
 refine RN 2 ha hs λa ha=>?_
 refine SK (st_set ha rfl (ex_assertF ha Tryz.underlying311 rfl Ty.t311 rfl) rfl ?_);clear ha a;intro a ha
 refine RN 2 ha hs λa ha=>?_
 replace ha:=ha.isF 15
 refine RN 2 ha hs λa ha=>?_
 refine SK (st_set ha rfl (ex_assertT ha Tryz.underlying313 rfl) rfl ?_);clear ha a;intro a ha
 refine RN 2 ha hs λa ha=>?_
 replace ha:=ha.isT 21
 refine AL 2 ha hs λb5 a w ha hs=>?_
 refine SA 0 ha hs λa w ha hs=>?_
 refine SA 6 ha hs λa w ha hs=>?_
 refine RT 0 ha hs ?_
 exact⟨by rw[rawC,hk];rfl,hs.sub⟩
theorem event_raw (hs:St W w L)(h:evOk e):Calls Tryz.prog 165 #[.agg #[evV e]] w λr w'=>r=.returned (.agg (rawC e).toArray)∧St W w' L:=by
 have h1:=h.1
 have h2:=h.2.1
 by_cases k1:e.1=1
 · exact event_raw1 hs h k1
 · by_cases k2:e.1=2
   · exact event_raw2 hs h k2
   · exact event_raw3 hs h (by omega)
end
end
end Go.Proofs.YtdilfdkendjjhaaGreat
