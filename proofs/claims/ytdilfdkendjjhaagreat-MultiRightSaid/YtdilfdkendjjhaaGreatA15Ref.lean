/- The references' runes, titles, programs: the walks. -/
import Derived.Test.YtdilfdkendjjhaaGreatA14Wk
import Derived.Test.YtdilfdkendjjhaaGreatA13Vm
namespace Go.Proofs.YtdilfdkendjjhaaGreat
open Go.RowKit
set_option linter.unusedVariables false
set_option linter.unusedSimpArgs false
set_option maxRecDepth 10000
set_option synthInstance.maxSize 4000
set_option synthInstance.maxHeartbeats 400000
section
section
variable {W w:World}{L:List SP}{s:ByteArray}{p:Pr}{adO:Option Addr}{cO:Nat}
theorem ext_zero (s:ByteArray):s.extract 0 s.size=s:=by simp
theorem str_ne {s:ByteArray}(h:0<s.size):(s.data.toList==(⟨#[]⟩:ByteArray).data.toList)=false:=by
 rw[beq_eq_false_iff_ne]
 intro e
 have h2:=congrArg List.length e
 have h3:s.data.toList.length=s.size:=Array.length_toList
 rw[h3]at h2
 have h4:(⟨#[]⟩:ByteArray).data.toList.length=0:=rfl
 omega
theorem index_byte {s:ByteArray}{j:Nat}(h:j<s.size):(s[j]'h).toNat=byteN s j:=by rw[byteN,getB_in h]
theorem refDecode_spec (hs:St W w L)(h0:0<s.size):Calls Tryz.prog 237 #[.string s] w λe w'=>e=.returned (.tuple #[.int .i32 (Utf8.decode s 0).1,.int .i64 (Utf8.decode s 0).2])∧St W w' L:=by
 obtain⟨b,hb⟩:∃ b,byteN s 0=b:=⟨_,rfl⟩
 have hb2:=byteN_lt s 0
 rw[hb]at hb2
 refine EN Tryz.func237 Tryz.ntmps237 rfl rfl λa ha=>?_
 refine RN 6 ha hs λa ha=>?_
 refine SS ha (ex_eqlS ha) λa ha=>?_
 rw[str_ne h0]at ha
 refine RN 0 ha hs λa ha=>?_
 replace ha:=ha.isF 10
 refine RN 3 ha hs λa ha=>?_
 refine SS ha (ex_indexS ha Tryz.underlying9 (by omega)) λa ha=>?_
 rw[index_byte h0,hb]at ha
 refine RN 5 ha hs λa ha=>?_
 refine wp_seq_cut (M:=λa w=>∃ n low r:Nat,decHead b n low r∧Fr a 92 [(0,.string s),(5,.int .i64 n),(6,.int .i32 low),(7,.int .i32 r)]∧St W w L) ?_ ?_
 ·
  refine IF 4 ha hs (λhc1 a ha=>?_) λhc1 a ha=>?_
  ·
   refine SX 2 ha hs (wrap32' (by omega) (by omega)) λa ha=>?_
   refine RT 2 ha hs ?_
   exact⟨by rw[dec_one hb (by omega)];rfl,hs⟩
  refine BY 4 ha hs (λhg2 a ha=>?_) λhg2 a ha=>?_
  ·
   refine IF 4 ha hs (λhc2 a ha=>?_) λhc2 a ha=>?_
   ·
    refine SX 1 ha hs (wrap32' (by omega) (by omega)) λa ha=>?_
    refine RN 1 ha hs λa ha=>?_
    obtain⟨r,hr⟩:∃ r,b=192+r:=⟨b-192,by omega⟩
    rw[show IntKind.i32.wrap ((b:Int)-192)=(r:Nat) from by rw[wrap32' (by omega) (by omega)];omega]at ha
    refine RN 3 ha hs λa ha=>?_
    exact⟨2,128,r,.inl ⟨hr,by omega,rfl,rfl⟩,ha.keep [0,5,6,7],hs⟩
   refine BY 4 ha hs (λhg2 a ha=>?_) λhg2 a ha=>?_
   ·
    refine IF 4 ha hs (λhc3 a ha=>?_) λhc3 a ha=>?_
    ·
     refine SX 1 ha hs (wrap32' (by omega) (by omega)) λa ha=>?_
     refine RN 1 ha hs λa ha=>?_
     obtain⟨r,hr⟩:∃ r,b=224+r:=⟨b-224,by omega⟩
     rw[show IntKind.i32.wrap ((b:Int)-224)=(r:Nat) from by rw[wrap32' (by omega) (by omega)];omega]at ha
     refine RN 3 ha hs λa ha=>?_
     exact⟨3,2048,r,.inr (.inl ⟨hr,by omega,rfl,rfl⟩),ha.keep [0,5,6,7],hs⟩
    refine BY 4 ha hs (λhg2 a ha=>?_) λhg2 a ha=>?_
    ·
     refine IF 4 ha hs (λhc4 a ha=>?_) λhc4 a ha=>?_
     ·
      refine SX 1 ha hs (wrap32' (by omega) (by omega)) λa ha=>?_
      refine RN 1 ha hs λa ha=>?_
      obtain⟨r,hr⟩:∃ r,b=240+r:=⟨b-240,by omega⟩
      rw[show IntKind.i32.wrap ((b:Int)-240)=(r:Nat) from by rw[wrap32' (by omega) (by omega)];omega]at ha
      refine RN 3 ha hs λa ha=>?_
      exact⟨4,65536,r,.inr (.inr ⟨hr,by omega,rfl,rfl⟩),ha.keep [0,5,6,7],hs⟩
     refine RT 3 ha hs ?_
     exact⟨by rw[dec_none hb (by omega) (by omega)];rfl,hs⟩
    refine RT 8 ha hs ?_
    exact⟨by rw[dec_none hb (by omega) (by omega)];rfl,hs⟩
   refine BY 9 ha hs (λhg2 a ha=>?_) λhg2 a ha=>?_
   ·
    refine IF 4 ha hs (λhc4 a ha=>?_) λhc4 a ha=>?_
    ·
     refine SX 1 ha hs (wrap32' (by omega) (by omega)) λa ha=>?_
     refine RN 1 ha hs λa ha=>?_
     obtain⟨r,hr⟩:∃ r,b=240+r:=⟨b-240,by omega⟩
     rw[show IntKind.i32.wrap ((b:Int)-240)=(r:Nat) from by rw[wrap32' (by omega) (by omega)];omega]at ha
     refine RN 3 ha hs λa ha=>?_
     exact⟨4,65536,r,.inr (.inr ⟨hr,by omega,rfl,rfl⟩),ha.keep [0,5,6,7],hs⟩
    refine RT 3 ha hs ?_
    exact⟨by rw[dec_none hb (by omega) (by omega)];rfl,hs⟩
   refine RT 8 ha hs ?_
   exact⟨by rw[dec_none hb (by omega) (by omega)];rfl,hs⟩
  refine BY 9 ha hs (λhg2 a ha=>?_) λhg2 a ha=>?_
  ·
   refine IF 4 ha hs (λhc3 a ha=>?_) λhc3 a ha=>?_
   ·
    refine SX 1 ha hs (wrap32' (by omega) (by omega)) λa ha=>?_
    refine RN 1 ha hs λa ha=>?_
    obtain⟨r,hr⟩:∃ r,b=224+r:=⟨b-224,by omega⟩
    rw[show IntKind.i32.wrap ((b:Int)-224)=(r:Nat) from by rw[wrap32' (by omega) (by omega)];omega]at ha
    refine RN 3 ha hs λa ha=>?_
    exact⟨3,2048,r,.inr (.inl ⟨hr,by omega,rfl,rfl⟩),ha.keep [0,5,6,7],hs⟩
   refine BY 4 ha hs (λhg2 a ha=>?_) λhg2 a ha=>?_
   ·
    refine IF 4 ha hs (λhc4 a ha=>?_) λhc4 a ha=>?_
    ·
     refine SX 1 ha hs (wrap32' (by omega) (by omega)) λa ha=>?_
     refine RN 1 ha hs λa ha=>?_
     obtain⟨r,hr⟩:∃ r,b=240+r:=⟨b-240,by omega⟩
     rw[show IntKind.i32.wrap ((b:Int)-240)=(r:Nat) from by rw[wrap32' (by omega) (by omega)];omega]at ha
     refine RN 3 ha hs λa ha=>?_
     exact⟨4,65536,r,.inr (.inr ⟨hr,by omega,rfl,rfl⟩),ha.keep [0,5,6,7],hs⟩
    refine RT 3 ha hs ?_
    exact⟨by rw[dec_none hb (by omega) (by omega)];rfl,hs⟩
   refine RT 8 ha hs ?_
   exact⟨by rw[dec_none hb (by omega) (by omega)];rfl,hs⟩
  refine BY 9 ha hs (λhg2 a ha=>?_) λhg2 a ha=>?_
  ·
   refine IF 4 ha hs (λhc4 a ha=>?_) λhc4 a ha=>?_
   ·
    refine SX 1 ha hs (wrap32' (by omega) (by omega)) λa ha=>?_
    refine RN 1 ha hs λa ha=>?_
    obtain⟨r,hr⟩:∃ r,b=240+r:=⟨b-240,by omega⟩
    rw[show IntKind.i32.wrap ((b:Int)-240)=(r:Nat) from by rw[wrap32' (by omega) (by omega)];omega]at ha
    refine RN 3 ha hs λa ha=>?_
    exact⟨4,65536,r,.inr (.inr ⟨hr,by omega,rfl,rfl⟩),ha.keep [0,5,6,7],hs⟩
   refine RT 3 ha hs ?_
   exact⟨by rw[dec_none hb (by omega) (by omega)];rfl,hs⟩
  refine RT 8 ha hs ?_
  exact⟨by rw[dec_none hb (by omega) (by omega)];rfl,hs⟩
 clear ha;(try clear hs)
 rintro a w ⟨n,low,r,hd,ha,hs⟩
 refine RN 2 ha hs λa ha=>?_
 have hn2:2≤n∧n≤4∧r<32:=by rcases hd with h | h | h <;> omega
 refine IF 4 ha hs (λhc5 a ha=>?_) λhc5 a ha=>?_
 ·
  refine RT 3 ha hs ?_
  exact⟨by rw[dec_fail hb hd (.inl (by omega))];rfl,hs⟩
 refine RN 3 ha hs λa ha=>?_
 refine wp_loop_ghost (λμ a w=>∃ (j:Nat),(μ=n-j∧j+1≤n∧∀ k,1≤k→k<j+1→byteN s k/64=2)∧Fr a 92 [(0,.string s),(5,.int .i64 n),(6,.int .i32 low),(7,.int .i32 (contN s r j:Nat)),(8,.int .i64 ((j+1:Nat):Int))]∧St W w L) (n) (⟨0,⟨by simp,by omega,λk h1 h2=>by omega⟩,ha.keep [0,5,6,7,8],hs⟩) ?_
 clear ha hs
 rintro μ a w ⟨j,⟨rfl,hj,hall⟩,ha,hs⟩
 refine IF 5 ha hs (λhc6 a ha=>?_) λhc6 a ha=>?_
 ·
  refine RN 3 ha hs λa ha=>?_
  have hjs:j+1<s.size:=by omega
  have hbj:=byteN_lt s (j+1)
  refine RN 2 ha hs λa ha=>?_
  refine SS ha (ex_indexS ha Tryz.underlying9 (by omega)) λa ha=>?_
  rw[index_byte hjs]at ha
  refine BY 2 ha hs (λhg4 a ha=>?_) λhg4 a ha=>?_
  ·
   refine RT 9 ha hs ?_
   exact⟨by rw[dec_fail hb hd (.inr ⟨j+1,by omega,by omega,by omega⟩)];rfl,hs⟩
  refine RN 2 ha hs λa ha=>?_
  refine st_set ha (wgT ha rfl (s:=61)) (ex_indexS ha Tryz.underlying9 (by omega)) rfl λa ha=>?_
  rw[index_byte hjs]at ha
  refine IF 2 ha hs (λhc7 a ha=>?_) λhc7 a ha=>?_
  ·
   refine RT 3 ha hs ?_
   exact⟨by rw[dec_fail hb hd (.inr ⟨j+1,by omega,by omega,by omega⟩)];rfl,hs⟩
  refine RN 0 ha hs λa ha=>?_
  have hcl:=contN_lt (s:=s) hn2.2.2 j
  have hj2:(64:Nat) ^ j≤64 ^ 2:=Nat.pow_le_pow_right (by omega) (by omega)
  refine RN 2 ha hs λa ha=>?_
  rw[wrap32' (by omega) (by omega)]at ha
  refine RN 2 ha hs λa ha=>?_
  refine SS ha (ex_indexS ha Tryz.underlying9 (by omega)) λa ha=>?_
  rw[index_byte hjs]at ha
  refine SX 0 ha hs (wrap32' (by omega) (by omega)) λa ha=>?_
  refine RN 1 ha hs λa ha=>?_
  rw[wrap32' (by omega) (by omega)]at ha
  refine RN 1 ha hs λa ha=>?_
  rw[show IntKind.i32.wrap ((contN s r j:Nat)*64+(byteN s (j+1):Nat)-128:Int)=(contN s r (j+1):Nat) from by rw[wrap32' (by omega) (by omega),contN];omega]at ha
  refine RN 4 ha hs λa ha=>?_
  refine⟨n-(j+1),by omega,j+1,⟨rfl,by omega,λk h1 h2=>?_⟩,ha.keep [0,5,6,7,8],hs⟩
  rcases Nat.lt_or_ge k (j+1) with h3 | h3
  · exact hall k h1 h3
  · obtain rfl:k=j+1:=by omega
    omega
 refine RN 2 ha hs λa ha=>?_
 obtain rfl:n=j+1:=by omega
 have hda:=dec_all hb hd (by omega) hall
 simp only[badN,Nat.add_sub_cancel]at hda
 refine BY 4 ha hs (λhg3 a ha=>?_) λhg3 a ha=>?_
 ·
  refine RT 15 ha hs ?_
  exact⟨by rw[hda.1 (by omega)];rfl,hs⟩
 refine BY 4 ha hs (λhg7 a ha=>?_) λhg7 a ha=>?_
 ·
  refine RT 11 ha hs ?_
  exact⟨by rw[hda.1 (by omega)];rfl,hs⟩
 refine BY 3 ha hs (λhg10 a ha=>?_) λhg10 a ha=>?_
 ·
  refine IF 4 ha hs (λhc8 a ha=>?_) λhc8 a ha=>?_
  ·
   refine RT 3 ha hs ?_
   exact⟨by rw[hda.1 (by omega)];rfl,hs⟩
  refine RT 5 ha hs ?_
  exact⟨by rw[hda.2 (by omega)],hs⟩
 refine RT 10 ha hs ?_
 exact⟨by rw[hda.2 (by omega)],hs⟩
def RI (l:List (Nat×Nat)):List Value:=l.map λx=>.int .i32 x.1
theorem refRunes_spec (hs:St W w L)(hsz:s.size≤1000000000):Calls Tryz.prog 194 #[.string s] w λe w'=>∃ ad c,e=.returned (.tuple #[.slice ad (runesAt s 0).length c,.bool ((runesAt s 0).all goodB)]) ∧
   St W w' (Sl 21 1 ad (runesAt s 0).length c (RI (runesAt s 0))::L):=by
 refine EN Tryz.func194 Tryz.ntmps194 rfl rfl λa ha=>?_
 refine RN 6 ha hs λa ha=>?_
 replace hs:=hs.sl0 21 1 none
 refine RN 2 ha hs λa ha=>?_
 refine wp_loop_ghost (λμ a w=>∃ (pos:Nat) (dn:List (Nat×Nat)) (ad:Option Addr) (c:Nat),(μ=s.size-pos∧pos≤s.size∧dn.length≤pos∧runesAt s 0=dn++runesAt s pos)∧Fr a 34 [(0,.string (s.extract pos s.size)),(4,.slice ad dn.length c),(5,.bool (dn.all goodB))]∧St W w (Sl 21 1 ad dn.length c (RI dn)::L)) (s.size) (⟨0,[],none,0,⟨by simp,by omega,by simp,rfl⟩,by rw[ext_zero];exact ha.keep [0,4,5],hs⟩) ?_
 clear ha hs
 rintro μ a w ⟨pos,dn,ad,c,⟨rfl,hp,hdl,hdn⟩,ha,hs⟩
 refine RN 4 ha hs λa ha=>?_
 rw[size_ext]at ha
 refine IF 1 ha hs (λhc0 a ha=>?_) λhc0 a ha=>?_
 ·
  have hps:pos<s.size:=by omega
  have hra:=runesAt_in hps
  have hdp:=decode_pos s pos
  have hdi:=decode_in s pos hps
  have hadv:adv s pos=pos+(Utf8.decode s pos).2:=by rw[adv,if_pos hps]
  refine CL 2 ha hs (refDecode_spec hs (by rw[size_ext];omega)) λa w ha hs=>?_
  rw[decode_ext]at ha
  refine RN 8 ha hs λa ha=>?_
  refine st_buildSlice ha rfl hs Tryz.underlying265 Ty.t21 rfl rfl rfl rfl (by decide) (by decide) λb18 a w ha hs ho=>?_
  clear ho
  refine RN 0 ha hs λa ha=>?_
  refine st_append ha rfl hs Tryz.underlying265 Ty.t21 rfl rfl hs.rdAll rfl (by simp[Value.oneCell']) (by decide) (by decide) (by omega) λad19 c19 a w ha hs=>?_
  refine RN 1 ha hs λa ha=>?_
  have hs5:St W w (Sl 21 1 ad19 (dn++[Utf8.decode s pos]).length c19 (RI (dn++[Utf8.decode s pos]))::L):=by
    have e1:(dn++[Utf8.decode s pos]).length=dn.length+1:=by simp
    have e2:RI (dn++[Utf8.decode s pos])=RI dn++[.int .i32 (Utf8.decode s pos).1]:=by simp[RI]
    rw[e1,e2]
    change St W w (Sl 21 1 ad19 (dn.length+1) c19 (RI dn++[.int .i32 (Utf8.decode s pos).1])::_) at hs
    exact hs.sub
  replace hs:=hs5
  clear hs5
  refine RN 1 ha hs λa ha=>?_
  have hgd:(dn++[Utf8.decode s pos]).all goodB=(dn.all goodB&&goodR (Utf8.decode s pos)):=by rw[goodR_eq];simp
  simp only[goodR]at hgd
  refine BY 2 ha hs (λhg1 a ha=>?_) λhg1 a ha=>?_
  ·
   refine BY 3 ha hs (λhg4 a ha=>?_) λhg4 a ha=>?_
   ·
    refine RN 5 ha hs λa ha=>?_
    rw[hg1,if_pos (by omega)]at hgd
    refine RN 2 ha hs λa ha=>?_
    refine SS ha (ex_sliceSL ha Tryz.underlying9 (by rw[size_ext];omega)) λa ha=>?_
    rw[ext_ext,← hadv]at ha
    refine RN 1 ha hs λa ha=>?_
    have hdd:(dn++[Utf8.decode s pos]).length=dn.length+1:=by simp
    refine⟨s.size-adv s pos,by omega,adv s pos,dn++[Utf8.decode s pos],_,_,⟨rfl,by omega,by omega,by rw[hdn,hra,List.append_assoc];rfl⟩,?_,hs⟩
    rw[hdd,hgd]
    exact ha.keep [0,4,5]
   refine RN 5 ha hs λa ha=>?_
   rw[hg1,if_neg (by omega),Bool.true_and,show decide ((Utf8.decode s pos).2=3)=decide (((Utf8.decode s pos).2:Int)=3) from decide_eq_decide.2 (by omega)]at hgd
   refine RN 2 ha hs λa ha=>?_
   refine SS ha (ex_sliceSL ha Tryz.underlying9 (by rw[size_ext];omega)) λa ha=>?_
   rw[ext_ext,← hadv]at ha
   refine RN 1 ha hs λa ha=>?_
   have hdd:(dn++[Utf8.decode s pos]).length=dn.length+1:=by simp
   refine⟨s.size-adv s pos,by omega,adv s pos,dn++[Utf8.decode s pos],_,_,⟨rfl,by omega,by omega,by rw[hdn,hra,List.append_assoc];rfl⟩,?_,hs⟩
   rw[hdd,hgd]
   exact ha.keep [0,4,5]
  refine RN 8 ha hs λa ha=>?_
  rw[hg1,Bool.false_and]at hgd
  refine RN 2 ha hs λa ha=>?_
  refine SS ha (ex_sliceSL ha Tryz.underlying9 (by rw[size_ext];omega)) λa ha=>?_
  rw[ext_ext,← hadv]at ha
  refine RN 1 ha hs λa ha=>?_
  have hdd:(dn++[Utf8.decode s pos]).length=dn.length+1:=by simp
  refine⟨s.size-adv s pos,by omega,adv s pos,dn++[Utf8.decode s pos],_,_,⟨rfl,by omega,by omega,by rw[hdn,hra,List.append_assoc];rfl⟩,?_,hs⟩
  rw[hdd,hgd]
  exact ha.keep [0,4,5]
 refine RT 5 ha hs ?_
 obtain rfl:pos=s.size:=by omega
 have hre:=runesAt_out (s:=s) (pos:=s.size) (by omega)
 rw[hre,List.append_nil]at hdn
 rw[hdn]
 exact⟨_,_,rfl,hs.sub⟩
theorem RI_at {l:List (Nat×Nat)}{i:Nat}{x:Nat×Nat}(h:l[i]?=some x):(RI l)[i]?=some (.int .i32 x.1):=by rw[RI,List.getElem?_map,h];rfl
theorem refTitle_spec (hs:St W w L)(hsz:s.size≤1000000000):Calls Tryz.prog 214 #[.string s] w λe w'=>e=.returned (.bool (tOk s))∧St W w' L:=by
 have htk:tOk s=(decide (1≤(runesAt s 0).length)&&decide ((runesAt s 0).length≤20)&&(runesAt s 0).all ctlB&&(runesAt s 0).all goodB):=rfl
 have hrl:=runesAt_len s s.size 0 (by omega)
 refine EN Tryz.func214 Tryz.ntmps214 rfl rfl λa ha=>?_
 refine CL2 4 ha hs (refRunes_spec hs hsz) λad c a w ha hs=>?_
 generalize (runesAt s 0)=l at ha hs htk hrl
 refine BY 10 ha hs (λhg2 a ha=>?_) λhg2 a ha=>?_
 ·
  refine RT 12 ha hs ?_
  exact⟨by rw[htk,hg2,Bool.and_false],hs.sub⟩
 refine BY 5 ha hs (λhg7 a ha=>?_) λhg7 a ha=>?_
 ·
  refine RT 7 ha hs ?_
  exact⟨by rw[htk,decide_eq_false (by omega)];simp,hs.sub⟩
 refine IF 4 ha hs (λhc0 a ha=>?_) λhc0 a ha=>?_
 ·
  refine RT 2 ha hs ?_
  exact⟨by rw[htk,decide_eq_false (p:=l.length≤20) (by omega)];simp,hs.sub⟩
 refine RN 3 ha hs λa ha=>?_
 refine wp_loop_ghost (λμ a w=>∃ i:Nat,(μ=l.length-i∧i≤l.length∧∀ j x,j<i→l[j]?=some x→ctlB x=true)∧Fr a 41 [(3,.slice ad l.length c),(5,.int .i64 i)]∧St W w (Sl 21 1 ad l.length c (RI l)::L)) (l.length) (⟨0,⟨by simp,by simp,λj x h=>absurd h (by omega)⟩,ha.keep [3,5],hs⟩) ?_
 clear ha hs
 rintro μ a w ⟨i,⟨rfl,hi,hin⟩,ha,hs⟩
 refine IF 6 ha hs (λhc1 a ha=>?_) λhc1 a ha=>?_
 ·
  obtain⟨b,o,rfl,hrd⟩:=hs.slRd ad (by omega)
  obtain⟨x,hx⟩:∃ x,l[i]?=some x:=⟨_,List.getElem?_eq_getElem (by omega)⟩
  have hcell:=hrd i _ (RI_at hx)
  refine RN 5 ha hs λa ha=>?_
  refine SS ha (ld1 ha (hcell)) λa ha=>?_
  refine BY 2 ha hs (λhg5 a ha=>?_) λhg5 a ha=>?_
  ·
   refine RT 9 ha hs ?_
   refine⟨?_,hs.sub⟩
   have hcx:ctlB x=false:=by
     simp only[ctlB,Bool.and_eq_false_iff,decide_eq_false_iff_not];omega
   have hall:l.all ctlB=false:=by rw[List.all_eq_false];exact⟨x,List.mem_of_getElem? hx,by rw[hcx];decide⟩
   rw[htk,hall];simp
  refine RN 3 ha hs λa ha=>?_
  refine st_set ha (wgT ha rfl (s:=34)) (ld1 ha (hcell)) rfl λa ha=>?_
  refine IF 2 ha hs (λhc2 a ha=>?_) λhc2 a ha=>?_
  ·
   refine RT 2 ha hs ?_
   refine⟨?_,hs.sub⟩
   have hcx:ctlB x=false:=by
     simp only[ctlB,Bool.and_eq_false_iff,decide_eq_false_iff_not];omega
   have hall:l.all ctlB=false:=by rw[List.all_eq_false];exact⟨x,List.mem_of_getElem? hx,by rw[hcx];decide⟩
   rw[htk,hall];simp
  refine RN 3 ha hs λa ha=>?_
  refine⟨l.length-(i+1),by omega,i+1,⟨rfl,by omega,λj y hj hy=>?_⟩,ha.keep [3,5],hs.sub⟩
  rcases Nat.lt_or_ge j i with h | h
  · exact hin j y h hy
  · obtain rfl:j=i:=by omega
    rw[hx]at hy;cases hy
    simp only[ctlB,Bool.and_eq_true,decide_eq_true_eq];omega
 refine RT 2 ha hs ?_
 refine⟨?_,hs.sub⟩
 have hall:l.all ctlB=true:=by
   rw[List.all_eq_true]
   intro x hx
   obtain⟨j,hj⟩:=List.mem_iff_getElem?.1 hx
   exact hin j x (by have:=(List.getElem?_eq_some_iff.1 hj).1;omega) hj
 rw[htk,hall,hg2,decide_eq_true (p:=1≤l.length) (by omega),decide_eq_true (p:=l.length≤20) (by omega)];rfl
theorem small_spec {x:Int}(hs:St W w L):Calls Tryz.prog 215 #[.int .i64 x] w λe w'=>∃ r:Bool,e=.returned (.bool r)∧(r=true↔i32P x)∧St W w' L:=by
 simp only[i32P]
 refine EN Tryz.func215 Tryz.ntmps215 rfl rfl λa ha=>?_
 refine BY 6 ha hs (λhg2 a ha=>?_) λhg2 a ha=>?_
 ·
  refine RT 4 ha hs ?_
  exact⟨_,rfl,by rw[decide_eq_true_iff];omega,hs⟩
 refine RT 4 ha hs ?_
 exact⟨_,rfl,⟨λh=>(by cases h),λh=>by omega⟩,hs⟩
theorem refForm_spec {p:Pr}(hs:St W w (RoP W p adO cO::L))(hsz:p.title.size≤1000000000)(hol:p.ops.length≤1000000000) :
   Calls Tryz.prog 162 #[.agg (prV p adO cO).toArray] w λe w'=>∃ r:Bool,e=.returned (.bool r)∧(r=true↔formOk p)∧St W w' (RoP W p adO cO::L):=by
 refine EN Tryz.func162 Tryz.ntmps162 rfl rfl λa ha=>?_
 refine BX 1 ha hs λb1 a w ha hs=>?_
 change St W w (blk b1 34 (prV p adO cO)::_) at hs
 refine CL 5 ha hs (refTitle_spec hs hsz) λa w ha hs=>?_
 refine BY 2 ha hs (λhg4 a ha=>?_) λhg4 a ha=>?_
 ·
  refine RT 14 ha hs ?_
  exact⟨false,rfl,⟨λh=>(by cases h),λh=>by rw[h.1]at hg4;cases hg4⟩,hs.sub⟩
 have htt:tOk p.title=true:=by simpa using hg4
 refine BY 6 ha hs (λhg10 a ha=>?_) λhg10 a ha=>?_
 ·
  refine RT 8 ha hs ?_
  exact⟨false,rfl,⟨λh=>(by cases h),λh=>by have:=h.2.1;omega⟩,hs.sub⟩
 refine IF 5 ha hs (λhc0 a ha=>?_) λhc0 a ha=>?_
 ·
  refine RT 2 ha hs ?_
  exact⟨false,rfl,⟨λh=>(by cases h),λh=>by have:=h.2.2.1;omega⟩,hs.sub⟩
 refine RN 3 ha hs λa ha=>?_
 refine wp_loop_ghost (λμ a w=>∃ i:Nat,(μ=p.ops.length-i∧i≤p.ops.length∧∀ j o,j<i→p.ops[j]?=some o→i32O o)∧Fr a 55 [(1,pt b1),(3,.int .i64 i)]∧St W w (blk b1 34 (prV p adO cO)::RoP W p adO cO::L)) (p.ops.length) (⟨0,⟨by simp,by simp,λj o h=>absurd h (by omega)⟩,ha.keep [1,3],hs.sub⟩) ?_
 clear ha hs
 rintro μ a w ⟨i,⟨rfl,hi,hin⟩,ha,hs⟩
 refine IF 7 ha hs (λhc1 a ha=>?_) λhc1 a ha=>?_
 ·
  obtain⟨o,ho⟩:∃ o,p.ops[i]?=some o:=⟨_,List.getElem?_eq_getElem (by omega)⟩
  obtain⟨bo,oo,rfl,hro⟩:=hs.roRd adO (by omega)
  refine RN 6 ha hs λa ha=>?_
  refine SS ha (ex_loadN ha Tryz.underlying119 rfl Ty.t119 (op_rd hro ho)) λa ha=>?_
  refine AL 0 ha hs λb4 a w ha hs=>?_
  refine SA 0 ha hs λa w ha hs=>?_
  refine CL1 3 ha hs (small_spec hs) λr1 a w ha ⟨hr1,hs⟩=>?_
  refine BY 2 ha hs (λhg4 a ha=>?_) λhg4 a ha=>?_
  ·
   have hbad:¬ i32O o:=λh=>by rw[hr1.2 h.1]at hg4;cases hg4
   refine RT 20 ha hs ?_
   exact⟨false,rfl,⟨λh=>(by cases h),λh=>absurd (h.2.2.2 o (List.mem_of_getElem? ho)) hbad⟩,hs.sub⟩
  refine CL1 2 ha hs (small_spec hs) λr2 a w ha ⟨hr2,hs⟩=>?_
  refine BY 3 ha hs (λhg10 a ha=>?_) λhg10 a ha=>?_
  ·
   have hbad:¬ i32O o:=λh=>by rw[hr2.2 h.2.1]at hg10;cases hg10
   refine RT 14 ha hs ?_
   exact⟨false,rfl,⟨λh=>(by cases h),λh=>absurd (h.2.2.2 o (List.mem_of_getElem? ho)) hbad⟩,hs.sub⟩
  refine CL1 2 ha hs (small_spec hs) λr3 a w ha ⟨hr3,hs⟩=>?_
  refine BY 3 ha hs (λhg16 a ha=>?_) λhg16 a ha=>?_
  ·
   have hbad:¬ i32O o:=λh=>by rw[hr3.2 h.2.2.1]at hg16;cases hg16
   refine RT 8 ha hs ?_
   exact⟨false,rfl,⟨λh=>(by cases h),λh=>absurd (h.2.2.2 o (List.mem_of_getElem? ho)) hbad⟩,hs.sub⟩
  refine CL1 2 ha hs (small_spec hs) λr4 a w ha ⟨hr4,hs⟩=>?_
  refine IF 2 ha hs (λhc2 a ha=>?_) λhc2 a ha=>?_
  ·
   have hbad:¬ i32O o:=λh=>by rw[hr4.2 h.2.2.2]at hc2;cases hc2
   refine RT 2 ha hs ?_
   exact⟨false,rfl,⟨λh=>(by cases h),λh=>absurd (h.2.2.2 o (List.mem_of_getElem? ho)) hbad⟩,hs.sub⟩
  have hgood:i32O o:=⟨hr1.1 (by simpa using hg4),hr2.1 (by simpa using hg10),hr3.1 (by simpa using hg16),hr4.1 (by simpa using hc2)⟩
  refine RN 3 ha hs λa ha=>?_
  refine⟨p.ops.length-(i+1),by omega,i+1,⟨rfl,by omega,λj o' hj ho'=>?_⟩,ha.keep [1,3],hs.sub⟩
  rcases Nat.lt_or_ge j i with h | h
  · exact hin j o' h ho'
  · obtain rfl:j=i:=by omega
    rw[ho]at ho';cases ho'
    exact hgood
 refine RT 2 ha hs ?_
 refine⟨true,rfl,⟨λ_=>⟨htt,by omega,by omega,λo ho=>?_⟩,λ_=>rfl⟩,hs.sub⟩
 obtain⟨j,hj⟩:=List.mem_iff_getElem?.1 ho
 exact hin j o (by have:=(List.getElem?_eq_some_iff.1 hj).1;omega) hj
theorem takes_row:∀ m:Nat,m≤15→(([[.int .i64 0],[.int .i64 2],[.int .i64 2],[.int .i64 3],[.int .i64 3],[.int .i64 3],[.int .i64 3],[.int .i64 3],[.int .i64 3],[.int .i64 1],[.int .i64 2],[.int .i64 2],[.int .i64 2],[.int .i64 2],[.int .i64 2],[.int .i64 1]].flatten:List Value))[m]?=some (.int .i64 (takesN (m:Int)))
 | 0,_=>rfl
 | 1,_=>rfl
 | 2,_=>rfl
 | 3,_=>rfl
 | 4,_=>rfl
 | 5,_=>rfl
 | 6,_=>rfl
 | 7,_=>rfl
 | 8,_=>rfl
 | 9,_=>rfl
 | 10,_=>rfl
 | 11,_=>rfl
 | 12,_=>rfl
 | 13,_=>rfl
 | 14,_=>rfl
 | 15,_=>rfl
 | n+16,h=>absurd h (by omega)
theorem refTakes_spec {k:Int}(hs:St W w L)(hk:0≤k∧k≤15):Calls Tryz.prog 216 #[.int .i64 k] w λe w'=>e=.returned (.int .i64 (takesN k))∧St W w' L:=by
 obtain⟨m,rfl⟩:∃ m:Nat,k=m:=⟨k.toNat,by omega⟩
 have hm:m≤15:=by omega
 refine EN Tryz.func216 Tryz.ntmps216 rfl rfl λa ha=>?_
 refine RN 3 ha hs λa ha=>?_
 refine st_buildSlice ha rfl hs Tryz.underlying52 Ty.t3 rfl rfl rfl rfl (by decide) (by decide) λb4 a w ha hs ho=>?_
 clear ho
 refine RN 5 ha hs λa ha=>?_
 refine SS ha (ld1 ha ((hs.rd1 (takes_row m hm)))) λa ha=>?_
 refine RT 1 ha hs ?_
 exact⟨rfl,hs.sub⟩
theorem args_row {o:OpR}:∀ k:Nat,k<3→([[.int .i64 o.a],[.int .i64 o.b],[.int .i64 o.c]].flatten:List Value)[k]?=some (.int .i64 (argO o k))
 | 0,_=>rfl
 | 1,_=>rfl
 | 2,_=>rfl
 | n+3,h=>absurd h (by omega)
theorem refMayOp_spec {n:Nat}{o:OpR}(hs:St W w L):Calls Tryz.prog 163 #[.agg (opR o).toArray,.int .i64 n] w λe w'=>∃ r:Bool,e=.returned (.bool r)∧(r=true↔okOp n o)∧St W w' L:=by
 refine EN Tryz.func163 Tryz.ntmps163 rfl rfl λa ha=>?_
 refine BX 1 ha hs λb2 a w ha hs=>?_
 change St W w (blk b2 119 (opR o)::_) at hs
 refine BY 7 ha hs (λhg3 a ha=>?_) λhg3 a ha=>?_
 ·
  refine RT 7 ha hs ?_
  exact⟨false,rfl,⟨λh=>(by cases h),λh=>by have:=(okOp_iff.1 h).1;omega⟩,hs.sub⟩
 refine IF 4 ha hs (λhc0 a ha=>?_) λhc0 a ha=>?_
 ·
  refine RT 2 ha hs ?_
  exact⟨false,rfl,⟨λh=>(by cases h),λh=>by have:=(okOp_iff.1 h).1;omega⟩,hs.sub⟩
 refine RN 7 ha hs λa ha=>?_
 refine st_buildSlice ha rfl hs Tryz.underlying52 Ty.t3 rfl rfl rfl rfl (by decide) (by decide) λb22 a w ha hs ho=>?_
 clear ho
 refine RN 4 ha hs λa ha=>?_
 refine wp_loop_ghost (λμ a w=>∃ k:Nat,(μ=3-k∧k≤3∧∀ j,j<k→okK n o j)∧Fr a 68 [(1,.int .i64 n),(2,pt b2),(5,.slice (some ⟨b22,0,none⟩) 3 3),(6,.int .i64 k)]∧St W w (blk b22 3 [[.int .i64 o.a],[.int .i64 o.b],[.int .i64 o.c]].flatten::blk b2 119 (opR o)::L)) (3) (⟨0,⟨by simp,by simp,λj h=>absurd h (by omega)⟩,ha.keep [1,2,5,6],hs.sub⟩) ?_
 clear ha hs
 rintro μ a w ⟨k,⟨rfl,hk,hin⟩,ha,hs⟩
 refine IF 4 ha hs (λhc1 a ha=>?_) λhc1 a ha=>?_
 ·
  refine RN 3 ha hs λa ha=>?_
  refine wp_seq_cut (M:=λa w=>(takesN o.code≤k∨¬ (o.code=1∧k=1))∧Fr a 68 [(1,.int .i64 n),(2,pt b2),(5,.slice (some ⟨b22,0,none⟩) 3 3),(6,.int .i64 k),(7,.int .i64 (mostO n o k))]∧St W w (blk b22 3 [[.int .i64 o.a],[.int .i64 o.b],[.int .i64 o.c]].flatten::blk b2 119 (opR o)::L)) ?_ ?_
  ·
   refine CL 4 ha hs (refTakes_spec hs (by omega)) λa w ha hs=>?_
   refine IF 2 ha hs (λhc2 a ha=>?_) λhc2 a ha=>?_
   ·
    refine RN 1 ha hs λa ha=>?_
    refine⟨.inl (by omega),?_,hs.sub⟩
    rw[show mostO n o k=0 from if_pos (by omega)]
    exact ha.keep [1,2,5,6,7]
   refine BY 5 ha hs (λhg3 a ha=>?_) λhg3 a ha=>?_
   ·
    refine IF 4 ha hs (λhc3 a ha=>?_) λhc3 a ha=>?_
    ·
     refine RN 3 ha hs λa ha=>?_
     refine⟨3-(k+1),by omega,k+1,⟨rfl,by omega,λj hj=>?_⟩,ha.keep [1,2,5,6],hs.sub⟩
     rcases Nat.lt_or_ge j k with h | h
     · exact hin j h
     · obtain rfl:j=k:=by omega
       exact .inl ⟨by omega,by omega,by omega⟩
    refine BY 5 ha hs (λhg3 a ha=>?_) λhg3 a ha=>?_
    ·
     refine RN 12 ha hs λa ha=>?_
     refine⟨.inr (by omega),?_,hs.sub⟩
     rw[show mostO n o k=n from by rw[mostO,if_neg (by omega),if_pos (by omega)]]
     exact ha.keep [1,2,5,6,7]
    refine BY 4 ha hs (λhg7 a ha=>?_) λhg7 a ha=>?_
    ·
     refine IF 5 ha hs (λhc4 a ha=>?_) λhc4 a ha=>?_
     ·
      refine RN 2 ha hs λa ha=>?_
      refine⟨.inr (by omega),?_,hs.sub⟩
      rw[show mostO n o k=n from by rw[mostO,if_neg (by omega),if_pos (by omega)]]
      exact ha.keep [1,2,5,6,7]
     refine RN 0 ha hs λa ha=>?_
     refine⟨.inr (by omega),?_,hs.sub⟩
     rw[show mostO n o k=31 from by rw[mostO,if_neg (by omega),if_neg (by omega)]]
     exact ha.keep [1,2,5,6,7]
    refine RN 6 ha hs λa ha=>?_
    refine⟨.inr (by omega),?_,hs.sub⟩
    rw[show mostO n o k=31 from by rw[mostO,if_neg (by omega),if_neg (by omega)]]
    exact ha.keep [1,2,5,6,7]
   refine BY 10 ha hs (λhg3 a ha=>?_) λhg3 a ha=>?_
   ·
    refine RN 12 ha hs λa ha=>?_
    refine⟨.inr (by omega),?_,hs.sub⟩
    rw[show mostO n o k=n from by rw[mostO,if_neg (by omega),if_pos (by omega)]]
    exact ha.keep [1,2,5,6,7]
   refine BY 4 ha hs (λhg7 a ha=>?_) λhg7 a ha=>?_
   ·
    refine IF 5 ha hs (λhc4 a ha=>?_) λhc4 a ha=>?_
    ·
     refine RN 2 ha hs λa ha=>?_
     refine⟨.inr (by omega),?_,hs.sub⟩
     rw[show mostO n o k=n from by rw[mostO,if_neg (by omega),if_pos (by omega)]]
     exact ha.keep [1,2,5,6,7]
    refine RN 0 ha hs λa ha=>?_
    refine⟨.inr (by omega),?_,hs.sub⟩
    rw[show mostO n o k=31 from by rw[mostO,if_neg (by omega),if_neg (by omega)]]
    exact ha.keep [1,2,5,6,7]
   refine RN 6 ha hs λa ha=>?_
   refine⟨.inr (by omega),?_,hs.sub⟩
   rw[show mostO n o k=31 from by rw[mostO,if_neg (by omega),if_neg (by omega)]]
   exact ha.keep [1,2,5,6,7]
  clear ha;(try clear hs)
  rintro a w ⟨hnc,ha,hs⟩
  refine RN 4 ha hs λa ha=>?_
  refine SS ha (ld1 ha ((hs.rd1 (args_row k (by omega))))) λa ha=>?_
  refine BY 2 ha hs (λhg5 a ha=>?_) λhg5 a ha=>?_
  ·
   refine RT 10 ha hs ?_
   refine⟨false,rfl,⟨λh=>(by cases h),λh=>?_⟩,hs.sub⟩
   have hk2:okK n o k:=by
     obtain⟨_,h0,h1,h2⟩:=okOp_iff.1 h
     rcases (by omega:k=0∨k=1∨k=2) with rfl | rfl | rfl
     · exact h0
     · exact h1
     · exact h2
   simp only[okK]at hk2
   omega
  refine RN 3 ha hs λa ha=>?_
  refine st_set ha (wgT ha rfl (s:=60)) (ld1 ha ((hs.rd1 (args_row k (by omega))))) rfl λa ha=>?_
  refine IF 3 ha hs (λhc5 a ha=>?_) λhc5 a ha=>?_
  ·
   refine RT 2 ha hs ?_
   refine⟨false,rfl,⟨λh=>(by cases h),λh=>?_⟩,hs.sub⟩
   have hk2:okK n o k:=by
     obtain⟨_,h0,h1,h2⟩:=okOp_iff.1 h
     rcases (by omega:k=0∨k=1∨k=2) with rfl | rfl | rfl
     · exact h0
     · exact h1
     · exact h2
   simp only[okK]at hk2
   omega
  refine RN 3 ha hs λa ha=>?_
  refine⟨3-(k+1),by omega,k+1,⟨rfl,by omega,λj hj=>?_⟩,ha.keep [1,2,5,6],hs.sub⟩
  rcases Nat.lt_or_ge j k with h | h
  · exact hin j h
  · obtain rfl:j=k:=by omega
    exact .inr ⟨by omega,by omega⟩
 refine RT 2 ha hs ?_
 exact⟨true,rfl,⟨λ_=>okOp_iff.2 ⟨by omega,hin 0 (by omega),hin 1 (by omega),hin 2 (by omega)⟩,λ_=>rfl⟩,hs.sub⟩
theorem refFault_spec {p:Pr}(hs:St W w (RoP W p adO cO::L))(hsz:p.title.size≤1000000000)(hol:p.ops.length≤1000000000) :
   Calls Tryz.prog 102 #[.agg (prV p adO cO).toArray] w λe w'=>∃ r:Int,e=.returned (.int .i64 r)∧(r = -1↔prOk p)∧St W w' (RoP W p adO cO::L):=by
 refine EN Tryz.func102 Tryz.ntmps102 rfl rfl λa ha=>?_
 refine BX 1 ha hs λb1 a w ha hs=>?_
 change St W w (blk b1 34 (prV p adO cO)::_) at hs
 refine CL1 4 ha hs (refForm_spec (hs.pick (RoP W p adO cO)) hsz hol) λr a w ha ⟨hr,hs⟩=>?_
 refine IF 1 ha hs (λhc0 a ha=>?_) λhc0 a ha=>?_
 ·
  have hnf:¬ formOk p:=λh=>by rw[hr.2 h]at hc0;cases hc0
  refine RT 2 ha hs ?_
  exact⟨-2,rfl,⟨λh=>absurd h (by decide),λh=>absurd h.1 hnf⟩,hs.sub⟩
 have hfo:formOk p:=hr.1 (by simpa using hc0)
 refine RN 3 ha hs λa ha=>?_
 refine wp_loop_ghost (λμ a w=>∃ i:Nat,(μ=p.ops.length-i∧i≤p.ops.length∧∀ j o,j<i→p.ops[j]?=some o→okOp p.ops.length o)∧Fr a 25 [(1,pt b1),(3,.int .i64 i)]∧St W w (blk b1 34 (prV p adO cO)::RoP W p adO cO::L)) (p.ops.length) (⟨0,⟨by simp,by simp,λj o h=>absurd h (by omega)⟩,ha.keep [1,3],hs.sub⟩) ?_
 clear ha hs
 rintro μ a w ⟨i,⟨rfl,hi,hin⟩,ha,hs⟩
 refine IF 7 ha hs (λhc1 a ha=>?_) λhc1 a ha=>?_
 ·
  refine RN 2 ha hs λa ha=>?_
  obtain⟨o,ho⟩:∃ o,p.ops[i]?=some o:=⟨_,List.getElem?_eq_getElem (by omega)⟩
  obtain⟨bo,oo,rfl,hro⟩:=hs.drew.roRd adO (by omega)
  have hrp:=op_rd hro ho
  refine DWG 0 (λw'=>Rd w' b1 0 (prV p (some ⟨bo,oo,none⟩) cO)∧Rd w' bo (oo+i*4) (opR o)) [6,7] [0,2,5,3001,3,3004,1006,1007,1008,9] ha hs λa ha=>?_
  replace hs:=hs.drew
  generalize w.drew=w at hs hrp ⊢
  have hC:Rd w b1 0 (prV p (some ⟨bo,oo,none⟩) cO)∧Rd w bo (oo+i*4) (opR o):=⟨hs.rdAll,hrp⟩
  have hH:=Hd.any (λw'=>Rd w' b1 0 (prV p (some ⟨bo,oo,none⟩) cO)∧Rd w' bo (oo+i*4) (opR o))
  refine RH 3 ha hs hH hC λa ha=>?_
  refine QH ha (λw hc=>ld1 ha (hc.1 1 _ rfl)) hC λa ha=>?_
  refine RH 1 ha hs hH hC λa ha=>?_
  refine QH ha (λw hc=>ex_loadN ha Tryz.underlying119 rfl Ty.t119 (hc.2)) hC λa ha=>?_
  refine RH 0 ha hs hH hC λa ha=>?_
  refine SS ha (ld1 ha (hC.1 1 _ rfl)) λa ha=>?_
  refine RH 1 ha hs hH hC λa ha=>?_
  refine CL1 0 ha hs (refMayOp_spec (n:=p.ops.length) (o:=o) hs) λr a w ha ⟨hr,hs⟩=>?_
  refine RN 1 ha hs λa ha=>?_
  refine IF 0 ha hs (λhc2 a ha=>?_) λhc2 a ha=>?_
  ·
   have hno:¬ okOp p.ops.length o:=λh=>by rw[hr.2 h]at hc2;cases hc2
   refine RT 3 ha hs ?_
   exact⟨i,rfl,⟨λh=>absurd h (by omega),λh=>absurd (h.2 o (List.mem_of_getElem? ho)) hno⟩,hs.sub⟩
  have hok:okOp p.ops.length o:=hr.1 (by simpa using hc2)
  refine RN 3 ha hs λa ha=>?_
  refine⟨p.ops.length-(i+1),by omega,i+1,⟨rfl,by omega,λj o' hj ho'=>?_⟩,ha.keep [1,3],hs.sub⟩
  rcases Nat.lt_or_ge j i with h | h
  · exact hin j o' h ho'
  · obtain rfl:j=i:=by omega
    rw[ho]at ho';cases ho'
    exact hok
 refine RT 2 ha hs ?_
 refine⟨-1,rfl,⟨λ_=>⟨hfo,λo ho=>?_⟩,λ_=>rfl⟩,hs.sub⟩
 obtain⟨j,hj⟩:=List.mem_iff_getElem?.1 ho
 exact hin j o (by have:=(List.getElem?_eq_some_iff.1 hj).1;omega) hj
end
end
end Go.Proofs.YtdilfdkendjjhaaGreat
