/- Package match: mail. -/
import Derived.Test.YteoldcfapaiobaaGreatA20MulN
import Derived.Test.YteoldcfapaiobaaGreatA13CoQ
namespace Go.Proofs.YteoldcfapaiobaaGreat
open Go.RowKit
set_option linter.unusedVariables false
set_option linter.unusedSimpArgs false
set_option maxRecDepth 10000
set_option synthInstance.maxSize 4000
set_option synthInstance.maxHeartbeats 400000
section
section
variable {W w:World}{L:List SP}{n c cL mb j q:Nat}{ad adE:Option Addr}{p:Pr}{B:MatB}{A:MatA}{v:Wd}{x:PbX}{t:Sp4}{y:Int}{net:List Ml}{m:Ml}{cf:Cf}{z:UInt8}
theorem nAt (h:net[j]?=some m):∃ h2:j<(net.map nCast).length,(net.map nCast)[j]=nCast m:=by
 obtain⟨h1,h2⟩:=List.getElem?_eq_some_iff.1 h
 exact⟨by rw[List.length_map];exact h1,by rw[List.getElem_map,h2]⟩
theorem nt_lookM (hs:St W w (NetQ q (net.map nCast)::L))(h:net[j]?=some m):Calls Tryz.prog 52 #[pt q,.int .i64 j] w λe w'=>∃ ad c,e=.returned (.tuple #[.agg #[.int .i64 m.1,.int .i64 m.2.1,.slice ad m.2.2.length c],.bool true])∧St W w' (Sl 5 1 ad m.2.2.length c (bc m.2.2)::NetQ q (net.map nCast)::L):=by
 obtain⟨h1,h2⟩:=nAt h
 have h3:=nt_look_in hs h1
 rw[h2]at h3
 exact h3
theorem nt_lookO (hs:St W w (NetQ q (net.map nCast)::L))(h:y<0∨(net.length:Int)≤y):Calls Tryz.prog 52 #[pt q,.int .i64 y] w λe w'=>e=.returned (.tuple #[.agg #[.int .i64 0,.int .i64 0,.slice none 0 0],.bool false])∧St W w' (NetQ q (net.map nCast)::L) :=
 nt_look_out hs (by rw[List.length_map];simp;omega)
theorem nt_dropM (hs:St W w (NetQ q (net.map nCast)::L))(h:net[j]?=some m):Calls Tryz.prog 63 #[pt q,.int .i64 j] w λe w'=>e=.returned (.bool true)∧St W w' (NetQ q ((net.eraseIdx j).map nCast)::L):=by
 obtain⟨h1,h2⟩:=nAt h
 have h3:=nt_drop_in hs h1
 rw[show (net.map nCast).eraseIdx j=(net.eraseIdx j).map nCast from by simp only[List.eraseIdx_eq_take_drop_succ,List.map_append,List.map_take,List.map_drop]]at h3
 exact h3
theorem nt_spoilM (hs:St W w (NetQ q (net.map nCast)::L))(h:net[j]?=some m):Calls Tryz.prog 64 #[pt q,.int .i64 j,.int .i64 y,.int .u8 (z.toNat:Int)] w λe w' =>
   e=.returned (.bool (decide (0≤y)&&decide (y<m.2.2.length)))∧St W w' (NetQ q ((if y<0∨(m.2.2.length:Int)≤y then net else net.set j (m.1,m.2.1,m.2.2.set y.toNat (m.2.2.getD y.toNat 0 ^^^ z))).map nCast)::L):=by
 obtain⟨h1,h2⟩:=nAt h
 have h3:=nt_spoil_in (at':=y) (x:=z) hs h1
 rw[h2]at h3
 refine h3.mono λe w' ⟨h4,h5⟩=>⟨h4,?_⟩
 by_cases h6:y<0∨(m.2.2.length:Int)≤y
 · rw[if_pos h6]
   rw[if_neg (by show ¬ (decide (0≤y)&&decide (y<(m.2.2.length:Int)))=true;simp;omega)]at h5
   exact h5
 · rw[if_neg h6,List.map_set]
   rw[if_pos (by show (decide (0≤y)&&decide (y<(m.2.2.length:Int)))=true;simp;omega)]at h5
   exact h5
theorem mailW_out {t:Sp4}(h:t.n<0∨(v.net.length:Int)≤t.n):mailW p t v=(3,v):=by rw[mailW,if_pos h]
theorem netD (h:v.net[j]?=some m):v.net.getD j (0,0,[])=m:=by rw[List.getD_eq_getElem?_getD,h];rfl
theorem mailW_drop {t:Sp4}(h:t.fn=4)(htn:t.n=j)(hm:v.net[j]?=some m):mailW p t v=(0,{ v with net:=v.net.eraseIdx j }):=by
 have h1:=(List.getElem?_eq_some_iff.1 hm).1
 rw[mailW,if_neg (by omega),if_neg (by omega),if_pos h,htn,Int.toNat_natCast]
theorem mailW_spoil {t:Sp4}(h:t.fn=6)(htn:t.n=j)(hm:v.net[j]?=some m):mailW p t v=if t.a<0∨(m.2.2.length:Int)≤t.a then (3,v) else (0,{ v with net:=v.net.set j (m.1,m.2.1,m.2.2.set t.a.toNat (m.2.2.getD t.a.toNat 0 ^^^ bOf t.b)) }):=by
 have h1:=(List.getElem?_eq_some_iff.1 hm).1
 rw[mailW,if_neg (by omega),if_pos h,htn,Int.toNat_natCast,netD hm]
theorem mailW_recv {t:Sp4}(h:t.fn≠4)(h':t.fn≠6)(htn:t.n=j)(hm:v.net[j]?=some m):mailW p t v=((recvP p m.2.2 (plW v m.2.1)).1,{ v with ps:=v.ps.set m.2.1 (recvP p m.2.2 (plW v m.2.1)).2,net:=if t.fn=5 then v.net else v.net.eraseIdx j }):=by
 have h1:=(List.getElem?_eq_some_iff.1 hm).1
 rw[mailW,if_neg (by omega),if_neg h',if_neg h,htn,Int.toNat_natCast,netD hm]
theorem mt_mail_out (hs:St W w (MatS W B p c v::L))(hn0:t.n<0∨(v.net.length:Int)≤t.n) :
   Calls Tryz.prog 45 #[pt B.mb,.agg (sp4C t).toArray] w λe w'=>e=.returned (.int .i64 3)∧St W w' (MatS W B p c v::L):=by
 replace hs:=MatS.open hs
 obtain⟨A,hA,hs⟩:=hs
 refine EN Tryz.func45 Tryz.ntmps45 rfl rfl λa ha=>?_
 refine BX 1 ha hs λb3 a w ha hs=>?_
 change St W w (blk b3 58 (sp4C t)::_) at hs
 refine RN 1 ha hs λa ha=>?_
 refine wp_seq_cut (M:=λa w=>∃ b5:Nat,Fr a 61 [(0,pt B.mb),(3,pt b3),(5,pt b5),(6,.bool false)]∧St W w (blk b5 124 [.int .i64 0,.int .i64 0,.slice none 0 0]::blk b3 58 (sp4C t)::blk B.mb 107 (matC B A)::Sl 81 1 A.adL A.xs.length A.cL (A.xs.map plv)::All (plX W p c) A.xs::NetQ B.q (v.net.map nCast)::Sl 90 1 A.adE A.es.length A.cE (A.es.map evs)::All evo A.es::L)) ?_ ?_
 ·
  refine DWC 0 (λw0 w'=>Rd w' B.mb 0 (matC B A)∧Rd w' b3 0 (sp4C t)) [5,10] [0,1,2,4,3003,3005,2006,7,8,9,1010,1011,12] ha hs λa w ha hs hH=>?_
  have hC:=hH.at w ⟨hs.rdAll (b:=B.mb),hs.rdAll (b:=b3)⟩
  refine RH 4 ha hs hH hC λa ha=>?_
  refine QH ha (λw hc=>ld1 ha (hc.1 1 _ rfl)) hC λa ha=>?_
  refine QH ha (λw hc=>ld1 ha (hc.2 3 _ rfl)) hC λa ha=>?_
  refine RH 0 ha hs hH hC λa ha=>?_
  refine DN [(6,[7,8,9,1010,1011,12]),(10,[1006,7,8,9,1011,12])] (by kernel_rfl) rfl ⟨⟨_,rfl,?_⟩,⟨_,rfl,?_⟩,trivial⟩
  ·
   refine RH 0 ha hs hH hC λa ha=>?_
   refine CL 0 ha hs (nt_lookO (hs.pick (NetQ B.q (v.net.map nCast))) hn0) λa w ha hs=>?_
   refine RN 3 ha hs λa ha=>?_
   refine st_alloc ha rfl hs Ty.t124 rfl λb5 a w ha hs ho=>?_
   clear ho
   replace hC:=hH.at w ⟨hs.rdAll (b:=B.mb),hs.rdAll (b:=b3)⟩
   refine RH 0 ha hs hH hC λa ha=>?_
   refine SA 0 ha hs λa w ha hs=>?_
   refine RN 1 ha hs λa ha=>?_
   exact⟨b5,ha.keep [0,3,5,6],hs.sub⟩
  refine RH 0 ha hs hH hC λa ha=>?_
  refine st_alloc ha rfl hs Ty.t124 rfl λb5 a w ha hs ho=>?_
  clear ho
  replace hC:=hH.at w ⟨hs.rdAll (b:=B.mb),hs.rdAll (b:=b3)⟩
  refine RH 0 ha hs hH hC λa ha=>?_
  refine CL 0 ha hs (nt_lookO (hs.pick (NetQ B.q (v.net.map nCast))) hn0) λa w ha hs=>?_
  refine SA 3 ha hs λa w ha hs=>?_
  refine RN 1 ha hs λa ha=>?_
  exact⟨b5,ha.keep [0,3,5,6],hs.sub⟩
 clear ha;(try clear hs)
 rintro a w ⟨b5,ha,hs⟩
 refine RN 4 ha hs λa ha=>?_
 replace ha:=ha.isT 18
 refine RT 3 ha hs ?_
 exact⟨rfl,(MatS.fold hs B p c v A hA).sub⟩
set_option maxHeartbeats 1000000 in
theorem mt_mail_in (hs:St W w (MatS W B p c v::L))(hB:B.Ok p c)(hv:WdOk p cf c v)(hf:t.fn=3∨t.fn=4∨t.fn=5∨t.fn=6)(htn:t.n=j)(hm:v.net[j]?=some m) :
   Calls Tryz.prog 45 #[pt B.mb,.agg (sp4C t).toArray] w λe w'=>e=.returned (.int .i64 (mailW p t v).1)∧St W w' (MatS W B p (c+1) (mailW p t v).2::L):=by
 replace hs:=MatS.open hs
 obtain⟨A,hA,hs⟩:=hs
 have hjl:=(List.getElem?_eq_some_iff.1 hm).1
 have hma:=hv.netAt hjl
 rw[netD hm]at hma
 obtain⟨x,hx,hix,hxB⟩:=hA.at hma.1
 obtain⟨_,hxe⟩:=List.getElem?_eq_some_iff.1 hx
 have hM:=x.play (W:=W) (p:=p) hB.pr hB.sz (hB.gs x (List.mem_of_getElem? hxB))
 obtain⟨hw,hcf,hnow⟩:=hv.pl m.2.1 hma.1
 have hcc:=hB.c
 have hpv:plv A.xs[m.2.1]=.iface x.z.t (.pointer (some x.z.ad)):=by rw[hxe]
 refine EN Tryz.func45 Tryz.ntmps45 rfl rfl λa ha=>?_
 refine BX 1 ha hs λb3 a w ha hs=>?_
 change St W w (blk b3 58 (sp4C t)::_) at hs
 refine RN 1 ha hs λa ha=>?_
 refine wp_seq_cut (M:=λa w=>∃ (b5:Nat) (am:Option Addr) (cm:Nat),Fr a 61 [(0,pt B.mb),(3,pt b3),(5,pt b5),(6,.bool true)]∧St W w (blk b5 124 [.int .i64 m.1,.int .i64 m.2.1,.slice am m.2.2.length cm]::Sl 5 1 am m.2.2.length cm (bc m.2.2)::blk b3 58 (sp4C t)::blk B.mb 107 (matC B A)::Sl 81 1 A.adL A.xs.length A.cL (A.xs.map plv)::All (plX W p c) A.xs::NetQ B.q (v.net.map nCast)::Sl 90 1 A.adE A.es.length A.cE (A.es.map evs)::All evo A.es::L)) ?_ ?_
 ·
  refine DWC 0 (λw0 w'=>Rd w' B.mb 0 (matC B A)∧Rd w' b3 0 (sp4C t)) [5,10] [0,1,2,4,3003,3005,2006,7,8,9,1010,1011,12] ha hs λa w ha hs hH=>?_
  have hC:=hH.at w ⟨hs.rdAll (b:=B.mb),hs.rdAll (b:=b3)⟩
  refine RH 4 ha hs hH hC λa ha=>?_
  refine QH ha (λw hc=>ld1 ha (hc.1 1 _ rfl)) hC λa ha=>?_
  refine QH ha (λw hc=>ld1 ha (hc.2 3 _ rfl)) hC λa ha=>?_
  rw[htn]at ha
  refine RH 0 ha hs hH hC λa ha=>?_
  refine DN [(6,[7,8,9,1010,1011,12]),(10,[1006,7,8,9,1011,12])] (by kernel_rfl) rfl ⟨⟨_,rfl,?_⟩,⟨_,rfl,?_⟩,trivial⟩
  ·
   refine RH 0 ha hs hH hC λa ha=>?_
   refine CL2 0 ha hs (nt_lookM (hs.pick (NetQ B.q (v.net.map nCast))) hm) λam cm a w ha hs=>?_
   refine RN 3 ha hs λa ha=>?_
   refine st_alloc ha rfl hs Ty.t124 rfl λb5 a w ha hs ho=>?_
   clear ho
   replace hC:=hH.at w ⟨hs.rdAll (b:=B.mb),hs.rdAll (b:=b3)⟩
   refine RH 0 ha hs hH hC λa ha=>?_
   refine SA 0 ha hs λa w ha hs=>?_
   refine RN 1 ha hs λa ha=>?_
   exact⟨b5,am,cm,ha.keep [0,3,5,6],hs.sub⟩
  refine RH 0 ha hs hH hC λa ha=>?_
  refine st_alloc ha rfl hs Ty.t124 rfl λb5 a w ha hs ho=>?_
  clear ho
  replace hC:=hH.at w ⟨hs.rdAll (b:=B.mb),hs.rdAll (b:=b3)⟩
  refine RH 0 ha hs hH hC λa ha=>?_
  refine CL2 0 ha hs (nt_lookM (hs.pick (NetQ B.q (v.net.map nCast))) hm) λam cm a w ha hs=>?_
  refine SA 3 ha hs λa w ha hs=>?_
  refine RN 1 ha hs λa ha=>?_
  exact⟨b5,am,cm,ha.keep [0,3,5,6],hs.sub⟩
 clear ha;(try clear hs)
 rintro a w ⟨b5,am,cm,ha,hs⟩
 refine RN 4 ha hs λa ha=>?_
 replace ha:=ha.isF 18
 refine RN 1 ha hs λa ha=>?_
 refine wp_seq_cut (M:=λa w=>((t.fn≠4∧t.fn≠6)∧Fr a 61 [(0,pt B.mb),(5,pt b5)])∧St W w (blk b5 124 [.int .i64 m.1,.int .i64 m.2.1,.slice am m.2.2.length cm]::Sl 5 1 am m.2.2.length cm (bc m.2.2)::blk B.mb 107 (matC B A)::Sl 81 1 A.adL A.xs.length A.cL (A.xs.map plv)::All (plX W p c) A.xs::NetQ B.q ((if t.fn=5 then v.net else v.net.eraseIdx j).map nCast)::Sl 90 1 A.adE A.es.length A.cE (A.es.map evs)::All evo A.es::L)) ?_ ?_
 ·
  refine IF 6 ha hs (λhc1 a ha=>?_) λhc1 a ha=>?_
  ·
   refine DWO 1 [5] [0,1,2,4,3003,1005,1006] ha hs λa w ha hs hH hC=>?_
   refine RH 6 ha hs hH hC λa ha=>?_
   rw[htn]at ha
   refine CL 0 ha hs (nt_dropM (hs.pick (NetQ B.q (v.net.map nCast))) hm) λa w ha hs=>?_
   refine RT 2 ha hs ?_
   exact⟨by rw[mailW_drop (by assumption) htn hm],by
     rw[mailW_drop (by assumption) htn hm]
     exact (MatS.fold ((hs.pick (All (plX W p c) A.xs)).plMore (Nat.le_succ c)) B p (c+1) { v with net:=v.net.eraseIdx j } A ⟨hA.pls,hA.ps,hA.ev⟩).sub⟩
  refine IF 3 ha hs (λhc2 a ha=>?_) λhc2 a ha=>?_
  ·
   refine DWO 2 [5,7,9,10] [0,1,2,4,6,8,3003,3005,3007,1009,1010,1011,12] ha hs λa w ha hs hH hC=>?_
   refine RH 10 ha hs hH hC λa ha=>?_
   refine SS ha (ex_convII ha Tryz.underlying3 Tryz.underlying5) λa ha=>?_
   rw[Sp4.u8,htn]at ha
   refine RH 0 ha hs hH hC λa ha=>?_
   refine CL 0 ha hs (nt_spoilM (hs.pick (NetQ B.q (v.net.map nCast))) hm) λa w ha hs=>?_
   refine RN 1 ha hs λa ha=>?_
   refine IF 0 ha hs (λhc3 a ha=>?_) λhc3 a ha=>?_
   ·
    have ho:t.a<0∨(m.2.2.length:Int)≤t.a:=by
      by_cases h1:t.a<0
      · exact .inl h1
      · by_cases h2:(m.2.2.length:Int)≤t.a
        · exact .inr h2
        · simp at hc3;omega
    refine RT 2 ha hs ?_
    exact⟨by rw[mailW_spoil (by assumption) htn hm,if_pos ho],by
      rw[mailW_spoil (by assumption) htn hm,if_pos ho]
      rw[if_pos ho]at hs
      exact (MatS.fold ((hs.pick (All (plX W p c) A.xs)).plMore (Nat.le_succ c)) B p (c+1) v A hA).sub⟩
   have ho:¬ (t.a<0∨(m.2.2.length:Int)≤t.a):=by
     simp at hc3;omega
   refine RT 2 ha hs ?_
   exact⟨by rw[mailW_spoil (by assumption) htn hm,if_neg ho],by
     rw[mailW_spoil (by assumption) htn hm,if_neg ho]
     rw[if_neg ho]at hs
     exact (MatS.fold ((hs.pick (All (plX W p c) A.xs)).plMore (Nat.le_succ c)) B p (c+1) { v with net:=v.net.set j (m.1,m.2.1,m.2.2.set t.a.toNat (m.2.2.getD t.a.toNat 0 ^^^ bOf t.b)) } A ⟨hA.pls,hA.ps,hA.ev⟩).sub⟩
  refine IF 3 ha hs (λhc4 a ha=>?_) λhc4 a ha=>?_
  ·
   refine DWO 0 [5] [0,1,2,4,3003,1005,1006] ha hs λa w ha hs hH hC=>?_
   refine RH 6 ha hs hH hC λa ha=>?_
   rw[htn]at ha
   refine CL 0 ha hs (nt_dropM (hs.pick (NetQ B.q (v.net.map nCast))) hm) λa w ha hs=>?_
   refine RN 0 ha hs λa ha=>?_
   rw[if_neg (by omega)]
   exact⟨⟨⟨by omega,by omega⟩,ha.keep [0,5]⟩,hs.sub⟩
  refine RN 0 ha hs λa ha=>?_
  rw[if_pos (by omega)]
  exact⟨⟨⟨by omega,by omega⟩,ha.keep [0,5]⟩,hs.sub⟩
 clear ha;(try clear hs)
 rintro a w ⟨⟨hf2,ha⟩,hs⟩
 refine DWC 1 (λw0 w'=>Rd w' b5 0 [.int .i64 m.1,.int .i64 m.2.1,.slice am m.2.2.length cm]) [3,5] [0,1,4,3002,3005,1003,1006,7] ha hs λa w ha hs hH=>?_
 have hC:=hH.at w (hs.rdAll (b:=b5))
 refine RH 3 ha hs hH hC λa ha=>?_
 refine QH ha (λw hc=>ld1 ha (hc 1 _ rfl)) hC λa ha=>?_
 refine QH ha (λw hc=>ld1 ha (hc 2 _ rfl)) hC λa ha=>?_
 refine RH 0 ha hs hH hC λa ha=>?_
 refine CL 0 ha hs (mt_player_in ((hs.pick (Sl 81 1 A.adL A.xs.length A.cL (A.xs.map plv))).pick (blk B.mb 107 (matC B A))) hix) λa w ha hs=>?_
 replace hC:=hH.at w (hs.rdAll (b:=b5))
 rw[hpv]at ha
 replace hs:=MatS.out (hs.pick (All (plX W p c) A.xs)) hx
 refine RH 0 ha hs hH hC λa ha=>?_
 refine st_callI ha rfl hM.mR hM.cR rfl (hM.recv _ _ c (plW v m.2.1) m.2.2 am cm hcc hw (by omega) (hs.sl am).2 (λw' hw'=>(hw'.pick (Sl 5 1 am m.2.2.length cm (bc m.2.2))).rdB am _ rfl rfl) (hs.pick (x.J W p c (plW v m.2.1)))) (by rfl) ?_
 clear ha hs
 rintro e w ⟨rfl,hs⟩
 refine⟨_,rfl,λa ha=>?_⟩
 refine RN 1 ha hs λa ha=>?_
 refine RT 0 ha hs ?_
 exact⟨by rw[mailW_recv hf2.1 hf2.2 htn hm],by
   rw[mailW_recv hf2.1 hf2.2 htn hm]
   exact MatS.put hA hx (Nat.le_succ c) (if t.fn=5 then v.net else v.net.eraseIdx j) hs.sub⟩
end
end
section
section
variable {W w:World}{L:List SP}{n c d cL cE mb i j q:Nat}{ad adL adE:Option Addr}{p:Pr}{B:MatB}{A:MatA}{v u:Wd}{x:PbX}{s s':Pl}{t:Sp4}{net:List Ml}{cf:Cf}{xs:List (PbX×Pl)}{es:List Evx}
theorem MatB.Ok.less (h:B.Ok p d)(hc:c≤d):B.Ok p c:=⟨h.pr,h.sz,h.gs,Nat.le_trans hc h.c⟩
theorem MatS.more (hs:St W w (MatS W B p c v::L))(h:c≤d):St W w (MatS W B p d v::L):=by
 replace hs:=MatS.open hs
 obtain⟨A,hA,hs⟩:=hs
 exact (MatS.fold ((hs.pick (All (plX W p c) A.xs)).plMore h) B p d v A hA).sub
theorem MatS.open2 (hs:St W w (MatS W B p c v::L)):∃ (adL:Option Addr) (cL:Nat) (adE:Option Addr) (cE:Nat) (xs:List (PbX×Pl)) (es:List Evx),(xs.map (·.1)=B.pls∧xs.map (·.2)=v.ps∧es.map (·.2.2)=v.ev) ∧
   St W w (blk B.mb 107 [.slice adL xs.length cL,pt B.q,.slice adE es.length cE]::Sl 81 1 adL xs.length cL (xs.map plv)::All (plX W p c) xs::NetQ B.q (v.net.map nCast)::Sl 90 1 adE es.length cE (es.map evs)::All evo es::L):=by
 replace hs:=MatS.open hs
 obtain⟨⟨adL,cL,adE,cE,xs,es⟩,hA,hs⟩:=hs
 exact⟨adL,cL,adE,cE,xs,es,⟨hA.pls,hA.ps,hA.ev⟩,hs⟩
theorem MatS.close2 (hs:St W w (blk B.mb 107 [.slice adL xs.length cL,pt B.q,.slice adE es.length cE]::Sl 81 1 adL xs.length cL (xs.map plv)::All (plX W p c) xs::NetQ B.q (v.net.map nCast)::Sl 90 1 adE es.length cE (es.map evs)::All evo es::L))
   (h1:xs.map (·.1)=B.pls) (h2:xs.map (·.2)=v.ps) (h3:es.map (·.2.2)=v.ev):St W w (MatS W B p c v::L) :=
 St.shut (M:=[_,_,_,_,_,_]) hs λ_ h=>⟨⟨adL,cL,adE,cE,xs,es⟩,⟨h1,h2,h3⟩,h⟩
theorem xsAt {ps:List Pl}{pls:List PbX}(h1:xs.map (·.1)=pls)(h2:xs.map (·.2)=ps)(hi:i<xs.length):∃ x,xs[i]?=some (x,ps.getD i pl0)∧pls[i]?=some x:=by
 refine⟨xs[i].1,?_,by rw[← h1,List.getElem?_map,List.getElem?_eq_getElem hi];rfl⟩
 rw[List.getElem?_eq_getElem hi,List.getD_eq_getElem?_getD,← h2,List.getElem?_map,List.getElem?_eq_getElem hi]
 rfl
theorem xsOut (hs:St W w (All (plX W p c) xs::L))(hx:xs[i]?=some (x,s)):St W w (x.J W p c s::All (plX W p c) (xs.eraseIdx i)::L):=by
 obtain⟨hi,h1⟩:=List.getElem?_eq_some_iff.1 hx
 have h2:=hs.allOut hi
 rw[h1]at h2
 exact h2
theorem xsIn (hs:St W w (x.J W p d s'::All (plX W p c) (xs.eraseIdx i)::L))(hx:xs[i]?=some (x,s))(h:c≤d):St W w (All (plX W p d) (xs.set i (x,s'))::L):=by
 obtain⟨hi,h1⟩:=List.getElem?_eq_some_iff.1 hx
 exact St.allPut (f:=plX W p d) (x:=(x,s')) hi (((hs.pick (All (plX W p c) (xs.eraseIdx i))).plMore h).pick (x.J W p d s'))
theorem xsSet (hx:xs[i]?=some (x,s)):(xs.set i (x,s')).map plv=xs.map plv∧(xs.set i (x,s')).map (·.1)=xs.map (·.1):=by
 obtain⟨hi,h1⟩:=List.getElem?_eq_some_iff.1 hx
 constructor
 · rw[List.map_set,show plv (x,s')=(xs.map plv)[i]'(by rw[List.length_map];exact hi) from by rw[List.getElem_map,h1],List.set_getElem_self]
 · rw[List.map_set]
   show (xs.map (·.1)).set i x=_
   rw[show x=(xs.map (·.1))[i]'(by rw[List.length_map];exact hi) from by rw[List.getElem_map,h1],List.set_getElem_self]
def workRes (B:MatB)(t:Sp4)(v:Wd)(z:Int):Prop:=z=7∨(z=0∧(0≤t.a∧t.a<v.ps.length)∧0≤t.b∧t.b<(plW v t.a.toNat).k.workers∧∃ x M,B.pls[t.a.toNat]?=some x∧x.z=.mu M)
theorem mt_one (hs:St W w (MatS W B p c v::L))(hB:B.Ok p c)(hv:WdOk p cf c v)(hf:t.fn=1∨t.fn=2∨t.fn=8∨t.fn=7) :
   Calls Tryz.prog 44 #[pt B.mb,.agg (sp4C t).toArray] w λe w'=>∃ z:Int,e=.returned (.int .i64 z)∧(t.fn≠7→z=(oneW p t v).1)∧(t.fn=7→workRes B t v z)∧St W w' (MatS W B p (c+1) (oneW p t v).2::L):=by
 by_cases h0:t.a<0∨(v.ps.length:Int)≤t.a
 · refine (mt_one_out hs h0).mono λe w' ⟨h,hs⟩=>⟨7,h,λ_=>?_,λ_=>.inl rfl,?_⟩
   · rw[oneW,if_pos h0]
   · rw[oneW,if_pos h0];exact MatS.more hs (Nat.le_succ c)
 · refine (mt_one_in (i:=t.a.toNat) hs hB hv (by omega) hf (by omega)).mono λe w' ⟨z,h,h1,h2,hs⟩=>⟨z,h,h1,λh7=>?_,hs⟩
   rcases h2 h7 with h3 | ⟨h3,h4,h5,h6⟩
   · exact .inl h3
   · exact .inr ⟨h3,by omega,h4,h5,h6⟩
theorem mt_mail (hs:St W w (MatS W B p c v::L))(hB:B.Ok p c)(hv:WdOk p cf c v)(hf:t.fn=3∨t.fn=4∨t.fn=5∨t.fn=6) :
   Calls Tryz.prog 45 #[pt B.mb,.agg (sp4C t).toArray] w λe w'=>e=.returned (.int .i64 (mailW p t v).1)∧St W w' (MatS W B p (c+1) (mailW p t v).2::L):=by
 by_cases h0:t.n<0∨(v.net.length:Int)≤t.n
 · rw[mailW_out h0]
   exact (mt_mail_out hs h0).mono λe w' ⟨h,hs⟩=>⟨h,MatS.more hs (Nat.le_succ c)⟩
 · exact mt_mail_in (j:=t.n.toNat) hs hB hv hf (by omega) (List.getElem?_eq_getElem (by omega))
set_option maxHeartbeats 2000000 in
theorem mt_step (hs:St W w (MatS W B p c v::L))(hB:B.Ok p (c+10))(hv:WdOk p cf c v)(hc9:9*c+100≤1000000000) :
   Calls Tryz.prog 29 #[pt B.mb,.agg (sp4C t).toArray] w λe w'=>∃ z:Int,e=.returned (.int .i64 z)∧(t.fn≠7→z=(stepW p t v).1)∧(t.fn=7→workRes B t v z)∧St W w' (MatS W B p (c+10) (drainW (stepW p t v).2)::L):=by
 have hu:=hv.step (s:=t)
 refine EN Tryz.func29 Tryz.ntmps29 rfl rfl λa ha=>?_
 refine BX 1 ha hs λb3 a w ha hs=>?_
 change St W w (blk b3 58 (sp4C t)::_) at hs
 refine RN 5 ha hs λa ha=>?_
 replace ha:=ha.isF 9
 refine RN 3 ha hs λa ha=>?_
 refine wp_seq_cut (M:=λa w=>(∃ z:Int,((t.fn≠7→z=(stepW p t v).1)∧(t.fn=7→workRes B t v z))∧Fr a 56 [(0,pt B.mb),(5,.int .i64 z)])∧St W w (MatS W B p (c+1) (stepW p t v).2::L)) ?_ ?_
 ·
  refine IF 7 ha hs (λhc1 a ha=>?_) λhc1 a ha=>?_
  ·
   refine CL1 3 ha hs (mt_one (hs.pick (MatS W B p c v)) (hB.less (by omega)) hv (by omega)) λz a w ha ⟨hz1,hz2,hs⟩=>?_
   refine RN 1 ha hs λa ha=>?_
   first
     | (have hst : stepW p t v = oneW p t v := by rw [stepW, if_neg (by omega), if_neg (by omega)]
        rw[hst];exact⟨⟨z,⟨hz1,hz2⟩,ha.keep [0,5]⟩,hs.sub⟩)
     | (have hst : stepW p t v = mailW p t v := by rw [stepW, if_neg (by omega), if_pos (by omega)]
        rw[hst];exact⟨⟨_,⟨λ_=>rfl,λh=>by omega⟩,ha.keep [0,5]⟩,hs.sub⟩)
     | (have hst : stepW p t v = (1, v) := by rw [stepW, if_pos (by omega)]
        rw[hst];exact⟨⟨1,⟨λ_=>rfl,λh=>by omega⟩,ha.keep [0,5]⟩,(MatS.more (hs.pick (MatS W B p c v)) (Nat.le_succ c)).sub⟩)
  refine IF 3 ha hs (λhc2 a ha=>?_) λhc2 a ha=>?_
  ·
   refine CL1 3 ha hs (mt_one (hs.pick (MatS W B p c v)) (hB.less (by omega)) hv (by omega)) λz a w ha ⟨hz1,hz2,hs⟩=>?_
   refine RN 1 ha hs λa ha=>?_
   first
     | (have hst : stepW p t v = oneW p t v := by rw [stepW, if_neg (by omega), if_neg (by omega)]
        rw[hst];exact⟨⟨z,⟨hz1,hz2⟩,ha.keep [0,5]⟩,hs.sub⟩)
     | (have hst : stepW p t v = mailW p t v := by rw [stepW, if_neg (by omega), if_pos (by omega)]
        rw[hst];exact⟨⟨_,⟨λ_=>rfl,λh=>by omega⟩,ha.keep [0,5]⟩,hs.sub⟩)
     | (have hst : stepW p t v = (1, v) := by rw [stepW, if_pos (by omega)]
        rw[hst];exact⟨⟨1,⟨λ_=>rfl,λh=>by omega⟩,ha.keep [0,5]⟩,(MatS.more (hs.pick (MatS W B p c v)) (Nat.le_succ c)).sub⟩)
  refine IF 3 ha hs (λhc3 a ha=>?_) λhc3 a ha=>?_
  ·
   refine CL1 3 ha hs (mt_one (hs.pick (MatS W B p c v)) (hB.less (by omega)) hv (by omega)) λz a w ha ⟨hz1,hz2,hs⟩=>?_
   refine RN 1 ha hs λa ha=>?_
   first
     | (have hst : stepW p t v = oneW p t v := by rw [stepW, if_neg (by omega), if_neg (by omega)]
        rw[hst];exact⟨⟨z,⟨hz1,hz2⟩,ha.keep [0,5]⟩,hs.sub⟩)
     | (have hst : stepW p t v = mailW p t v := by rw [stepW, if_neg (by omega), if_pos (by omega)]
        rw[hst];exact⟨⟨_,⟨λ_=>rfl,λh=>by omega⟩,ha.keep [0,5]⟩,hs.sub⟩)
     | (have hst : stepW p t v = (1, v) := by rw [stepW, if_pos (by omega)]
        rw[hst];exact⟨⟨1,⟨λ_=>rfl,λh=>by omega⟩,ha.keep [0,5]⟩,(MatS.more (hs.pick (MatS W B p c v)) (Nat.le_succ c)).sub⟩)
  refine IF 2 ha hs (λhc4 a ha=>?_) λhc4 a ha=>?_
  ·
   refine CL1 2 ha hs (mt_one (hs.pick (MatS W B p c v)) (hB.less (by omega)) hv (by omega)) λz a w ha ⟨hz1,hz2,hs⟩=>?_
   refine RN 1 ha hs λa ha=>?_
   first
     | (have hst : stepW p t v = oneW p t v := by rw [stepW, if_neg (by omega), if_neg (by omega)]
        rw[hst];exact⟨⟨z,⟨hz1,hz2⟩,ha.keep [0,5]⟩,hs.sub⟩)
     | (have hst : stepW p t v = mailW p t v := by rw [stepW, if_neg (by omega), if_pos (by omega)]
        rw[hst];exact⟨⟨_,⟨λ_=>rfl,λh=>by omega⟩,ha.keep [0,5]⟩,hs.sub⟩)
     | (have hst : stepW p t v = (1, v) := by rw [stepW, if_pos (by omega)]
        rw[hst];exact⟨⟨1,⟨λ_=>rfl,λh=>by omega⟩,ha.keep [0,5]⟩,(MatS.more (hs.pick (MatS W B p c v)) (Nat.le_succ c)).sub⟩)
  refine IF 4 ha hs (λhc5 a ha=>?_) λhc5 a ha=>?_
  ·
   refine CL 3 ha hs (mt_mail (hs.pick (MatS W B p c v)) (hB.less (by omega)) hv (by omega)) λa w ha hs=>?_
   refine RN 1 ha hs λa ha=>?_
   first
     | (have hst : stepW p t v = oneW p t v := by rw [stepW, if_neg (by omega), if_neg (by omega)]
        rw[hst];exact⟨⟨z,⟨hz1,hz2⟩,ha.keep [0,5]⟩,hs.sub⟩)
     | (have hst : stepW p t v = mailW p t v := by rw [stepW, if_neg (by omega), if_pos (by omega)]
        rw[hst];exact⟨⟨_,⟨λ_=>rfl,λh=>by omega⟩,ha.keep [0,5]⟩,hs.sub⟩)
     | (have hst : stepW p t v = (1, v) := by rw [stepW, if_pos (by omega)]
        rw[hst];exact⟨⟨1,⟨λ_=>rfl,λh=>by omega⟩,ha.keep [0,5]⟩,(MatS.more (hs.pick (MatS W B p c v)) (Nat.le_succ c)).sub⟩)
  refine IF 3 ha hs (λhc6 a ha=>?_) λhc6 a ha=>?_
  ·
   refine CL 3 ha hs (mt_mail (hs.pick (MatS W B p c v)) (hB.less (by omega)) hv (by omega)) λa w ha hs=>?_
   refine RN 1 ha hs λa ha=>?_
   first
     | (have hst : stepW p t v = oneW p t v := by rw [stepW, if_neg (by omega), if_neg (by omega)]
        rw[hst];exact⟨⟨z,⟨hz1,hz2⟩,ha.keep [0,5]⟩,hs.sub⟩)
     | (have hst : stepW p t v = mailW p t v := by rw [stepW, if_neg (by omega), if_pos (by omega)]
        rw[hst];exact⟨⟨_,⟨λ_=>rfl,λh=>by omega⟩,ha.keep [0,5]⟩,hs.sub⟩)
     | (have hst : stepW p t v = (1, v) := by rw [stepW, if_pos (by omega)]
        rw[hst];exact⟨⟨1,⟨λ_=>rfl,λh=>by omega⟩,ha.keep [0,5]⟩,(MatS.more (hs.pick (MatS W B p c v)) (Nat.le_succ c)).sub⟩)
  refine IF 3 ha hs (λhc7 a ha=>?_) λhc7 a ha=>?_
  ·
   refine CL 3 ha hs (mt_mail (hs.pick (MatS W B p c v)) (hB.less (by omega)) hv (by omega)) λa w ha hs=>?_
   refine RN 1 ha hs λa ha=>?_
   first
     | (have hst : stepW p t v = oneW p t v := by rw [stepW, if_neg (by omega), if_neg (by omega)]
        rw[hst];exact⟨⟨z,⟨hz1,hz2⟩,ha.keep [0,5]⟩,hs.sub⟩)
     | (have hst : stepW p t v = mailW p t v := by rw [stepW, if_neg (by omega), if_pos (by omega)]
        rw[hst];exact⟨⟨_,⟨λ_=>rfl,λh=>by omega⟩,ha.keep [0,5]⟩,hs.sub⟩)
     | (have hst : stepW p t v = (1, v) := by rw [stepW, if_pos (by omega)]
        rw[hst];exact⟨⟨1,⟨λ_=>rfl,λh=>by omega⟩,ha.keep [0,5]⟩,(MatS.more (hs.pick (MatS W B p c v)) (Nat.le_succ c)).sub⟩)
  refine IF 2 ha hs (λhc8 a ha=>?_) λhc8 a ha=>?_
  ·
   refine CL 2 ha hs (mt_mail (hs.pick (MatS W B p c v)) (hB.less (by omega)) hv (by omega)) λa w ha hs=>?_
   refine RN 1 ha hs λa ha=>?_
   first
     | (have hst : stepW p t v = oneW p t v := by rw [stepW, if_neg (by omega), if_neg (by omega)]
        rw[hst];exact⟨⟨z,⟨hz1,hz2⟩,ha.keep [0,5]⟩,hs.sub⟩)
     | (have hst : stepW p t v = mailW p t v := by rw [stepW, if_neg (by omega), if_pos (by omega)]
        rw[hst];exact⟨⟨_,⟨λ_=>rfl,λh=>by omega⟩,ha.keep [0,5]⟩,hs.sub⟩)
     | (have hst : stepW p t v = (1, v) := by rw [stepW, if_pos (by omega)]
        rw[hst];exact⟨⟨1,⟨λ_=>rfl,λh=>by omega⟩,ha.keep [0,5]⟩,(MatS.more (hs.pick (MatS W B p c v)) (Nat.le_succ c)).sub⟩)
  refine RN 0 ha hs λa ha=>?_
  first
    | (have hst : stepW p t v = oneW p t v := by rw [stepW, if_neg (by omega), if_neg (by omega)]
       rw[hst];exact⟨⟨z,⟨hz1,hz2⟩,ha.keep [0,5]⟩,hs.sub⟩)
    | (have hst : stepW p t v = mailW p t v := by rw [stepW, if_neg (by omega), if_pos (by omega)]
       rw[hst];exact⟨⟨_,⟨λ_=>rfl,λh=>by omega⟩,ha.keep [0,5]⟩,hs.sub⟩)
    | (have hst : stepW p t v = (1, v) := by rw [stepW, if_pos (by omega)]
       rw[hst];exact⟨⟨1,⟨λ_=>rfl,λh=>by omega⟩,ha.keep [0,5]⟩,(MatS.more (hs.pick (MatS W B p c v)) (Nat.le_succ c)).sub⟩)
 clear ha;(try clear hs)
 rintro a w ⟨⟨z,hz,ha⟩,hs⟩
 refine RN 2 ha hs λa ha=>?_
 generalize (stepW p t v).2=u at hs hu ⊢
 replace hs:=MatS.open2 hs
 obtain⟨adL,cL,adE,cE,xs0,es0,⟨hx1,hx2,hx3⟩,hs⟩:=hs
 have hxl:xs0.length=u.ps.length:=by rw[← hx2,List.length_map]
 have hel:es0.length=u.ps.length:=by rw[← hu.ev,← hx3,List.length_map]
 have hn8:=hu.len
 have hcc:=hB.c
 refine RN 6 ha hs λa ha=>?_
 refine wp_loop_ghost (λμ a w=>∃ (i:Nat) (xs:List (PbX×Pl)) (es:List Evx),(μ=u.ps.length-i∧(i≤u.ps.length∧xs.length=u.ps.length∧es.length=u.ps.length)∧xs.map (·.1)=B.pls∧xs.map (·.2)=(drainN u i).ps∧es.map (·.2.2)=(drainN u i).ev)∧Fr a 56 [(0,pt B.mb),(5,.int .i64 z),(31,.slice adL u.ps.length cL),(32,.int .i64 u.ps.length),(33,.int .i64 i)]∧St W w (blk B.mb 107 [.slice adL u.ps.length cL,pt B.q,.slice adE u.ps.length cE]::Sl 81 1 adL u.ps.length cL (xs.map plv)::All (plX W p (c+1+i)) xs::NetQ B.q (u.net.map nCast)::Sl 90 1 adE u.ps.length cE (es.map evs)::All evo es::L)) (u.ps.length) (⟨0,xs0,es0,⟨rfl,⟨by omega,hxl,hel⟩,hx1,hx2,hx3⟩,(by rw[hxl]at ha;exact ha.keep [0,5,31,32,33]),(by rw[hxl,hel]at hs;exact hs.sub)⟩) ?_
 clear ha hs
 rintro μ a w ⟨i,xs,es,⟨rfl,⟨hi,hxl2,hel2⟩,hx4,hx5,hx6⟩,ha,hs⟩
 refine IF 3 ha hs (λhc9 a ha=>?_) λhc9 a ha=>?_
 ·
  have hil:i<u.ps.length:=by omega
  obtain⟨x,hx,hxB⟩:∃ x,xs[i]?=some (x,plW (drainN u i) i)∧B.pls[i]?=some x:=xsAt hx4 hx5 (by omega)
  obtain⟨_,hxe⟩:=List.getElem?_eq_some_iff.1 hx
  have hM:=x.play (W:=W) (p:=p) hB.pr hB.sz (hB.gs x (List.mem_of_getElem? hxB))
  have hd:=hu.drainN (i:=i) (by omega)
  obtain⟨hw,hcf,hnow⟩:=hd.pl i (by rw[(drainN_ps u i).1];exact hil)
  have hdev:=hd.evl
  obtain⟨ea,ec,l,hee⟩:∃ ea ec l,es[i]?=some (ea,ec,l):=⟨_,_,_,List.getElem?_eq_getElem (by omega)⟩
  obtain⟨_,hee2⟩:=List.getElem?_eq_some_iff.1 hee
  have hll:l.length≤9*(c+2):=(hdev l (by rw[← hx6];exact List.mem_map.2 ⟨(ea,ec,l),by rw[← hee2];exact List.getElem_mem _,rfl⟩)).1
  have hpv:(xs.map plv)[i]?=some (.iface x.z.t (.pointer (some x.z.ad))):=by rw[List.getElem?_map,hx];rfl
  refine RN 2 ha hs λa ha=>?_
  obtain⟨bl,ol,rfl,hrl⟩:=(hs.pick (Sl 81 1 adL u.ps.length cL (xs.map plv))).slRd adL (by omega)
  have hrx:=hrl i _ hpv
  refine RN 2 ha hs λa ha=>?_
  refine SS ha (ld1 ha (hrx)) λa ha=>?_
  refine RN 2 ha hs λa ha=>?_
  obtain⟨bE,oE,rfl,_⟩:=(hs.pick (Sl 90 1 adE u.ps.length cE (es.map evs))).slRd adE (by omega)
  refine DWC 0 (λw0 w'=>Rd w' B.mb 0 [.slice (some ⟨bl,ol,none⟩) u.ps.length cL,pt B.q,.slice (some ⟨bE,oE,none⟩) u.ps.length cE]∧Rd w' bE oE (es.map evs)) [8,10,11,13,14] [0,1,2,4,5,6,7,9,12,3003,3008,3010,3011,1013,1014,15,1016] ha hs λa w ha hs hH=>?_
  have hC:=hH.at w ⟨hs.rdAll (b:=B.mb),hs.slRdAt bE oE (by omega)⟩
  refine RH 9 ha hs hH hC λa ha=>?_
  refine QH ha (λw hc=>ld1 ha (hc.1 2 _ rfl)) hC λa ha=>?_
  refine QH ha (λw hc=>ld1 ha (hc.1 2 _ rfl)) hC λa ha=>?_
  refine RH 1 ha hs hH hC λa ha=>?_
  refine QH ha (λw hc=>ld1 ha (hc.2 i (.slice ea l.length ec) (by rw[List.getElem?_map,hee];rfl))) hC λa ha=>?_
  replace hs:=xsOut (hs.pick (All (plX W p (c+1+i)) xs)) hx
  refine RH 0 ha hs hH hC λa ha=>?_
  refine st_callI ha rfl hM.mE hM.cE rfl (hM.events _ _ (c+1+i) (plW (drainN u i) i) (by omega) hw (hs.pick (x.J W p (c+1+i) (plW (drainN u i) i)))) (by rfl) ?_
  clear ha hs
  rintro e w ⟨am,cm,rfl,hs⟩
  refine⟨_,rfl,λa ha=>?_⟩
  replace hC:=hH.at w ⟨hs.rdAll (b:=B.mb),hs.slRdAt bE oE (by omega)⟩
  replace hs:=(hs.pick (All evo es)).allOut (i:=i) (by omega)
  rw[hee2]at hs
  change St W w (Sl 135 1 ea l.length ec (l.map evV)::_) at hs
  have hevl:=hw.wc.evl
  refine RH 0 ha hs hH hC λa ha=>?_
  refine st_appendT ha rfl hs Tryz.underlying90 Ty.t135 rfl rfl (by decide) (λh0=>(hs.pick (Sl 135 1 am (plW (drainN u i) i).k.ev.length cm ((plW (drainN u i) i).k.ev.map evV))).slRd am h0) (by rw[List.length_map,Nat.mul_one]) (evV_ones _) (by omega) λad52 c52 a w ha hs=>?_
  replace hC:=hH.at w ⟨hs.rdAll (b:=B.mb),hs.slRdAt bE oE (by omega)⟩
  have hcE:=((hs.pick (Sl 90 1 (some ⟨bE,oE,none⟩) u.ps.length cE (es.map evs))).sl (some ⟨bE,oE,none⟩)).2
  obtain⟨bF,pre,post,⟨h3,h4,h5,h6⟩,hs0⟩:=(hs.pick (Sl 90 1 (some ⟨bE,oE,none⟩) u.ps.length cE (es.map evs))).slOpen (by omega)
  replace hs:=hs0
  clear hs0
  obtain⟨rfl,rfl⟩:bE=bF∧oE=pre.length:=by simpa using h5
  refine RH 1 ha hs hH hC λa ha=>?_
  refine ST 0 ha hs (λa w ha hs=>?_) (hlt:=(by simp only[List.length_append,List.length_map];omega))
  refine RN 2 ha hs λa ha=>?_
  have hgl:(drainN u i).ev.getD i []=l:=by rw[← hx6,List.getD_eq_getElem?_getD,List.getElem?_map,hee];rfl
  have hmv:(es.map evs).set i (.slice ad52 (l.length+(plW (drainN u i) i).k.ev.length) c52)=(es.set i (ad52,c52,l++(plW (drainN u i) i).k.ev)).map evs:=by
    rw[List.map_set,evs,List.length_append]
  have hs2:=hs
  rw[nt_set_mid (by rw[List.length_map];omega),hmv]at hs2
  replace hs2:=St.slShut (n:=u.ps.length) (c:=cE) (sz:=1) (hs2.bring bE) (by rw[List.length_map,List.length_set];omega) h4 h6
  have hj:=hs2.pick (All (plX W p (c+1+i)) (xs.eraseIdx i))
  have hk:=xsIn (s':=⟨{ (plW (drainN u i) i).k with ev:=[] },(plW (drainN u i) i).g⟩) (hj.pick (x.J W p (c+1+i+1) ⟨{ (plW (drainN u i) i).k with ev:=[] },(plW (drainN u i) i).g⟩)) hx (Nat.le_succ _)
  have hev:Sl 135 1 ad52 (l.length+(plW (drainN u i) i).k.ev.length) c52 (l.map evV++(plW (drainN u i) i).k.ev.map evV)=evo (ad52,c52,l++(plW (drainN u i) i).k.ev):=by
    rw[evo,List.length_append,List.map_append]
  have hq:=(hk.pick (All evo (es.eraseIdx i))).pick (Sl 135 1 ad52 (l.length+(plW (drainN u i) i).k.ev.length) c52 (l.map evV++(plW (drainN u i) i).k.ev.map evV))
  rw[hev]at hq
  have hz2:=St.allPut (f:=evo) (i:=i) (by omega) hq
  refine⟨u.ps.length-(i+1),by omega,i+1,xs.set i (x,⟨{ (plW (drainN u i) i).k with ev:=[] },(plW (drainN u i) i).g⟩),es.set i (ad52,c52,l++(plW (drainN u i) i).k.ev),⟨rfl,⟨by omega,by rw[List.length_set];exact hxl2,by rw[List.length_set];exact hel2⟩,(xsSet hx).2.trans hx4,?_,?_⟩,ha.keep [0,5,31,32,33],?_⟩
  · rw[List.map_set,hx5];rfl
  · rw[List.map_set,hx6,← hgl];rfl
  · rw[(xsSet hx).1];exact hz2.sub
 refine RT 3 ha hs ?_
 obtain rfl:i=u.ps.length:=by omega
 refine⟨z,rfl,hz.1,hz.2,?_⟩
 have hs2:=(hs.pick (All (plX W p (c+1+u.ps.length)) xs)).plMore (d:=c+10) (by omega)
 refine MatS.close2 (adL:=adL) (cL:=cL) (adE:=adE) (cE:=cE) (xs:=xs) (es:=es) ?_ hx4 hx5 hx6
 rw[hxl2,hel2,show (drainW u).net=u.net from (drainN_ps u _).2.1]
 exact hs2.sub
end
end
section
def wordOk (p:Pr)(G:List (List UInt8))(f s:Nat):Prop:=f≤frontL G∧(0<f→s=markAt p G (f-1))
theorem wordOk.ext {p:Pr}{G G':List (List UInt8)}{f s:Nat}(h:wordOk p G f s)(he:Ext G G')(h0:G≠[]):wordOk p G' f s :=
 ⟨Nat.le_trans h.1 (he.front h0),λhf=>by rw[he.markAt (by have:=h.1;omega)];exact h.2 hf⟩
theorem marks_at {p:Pr}{k:Ks}(hm:k.mr=(List.range k.mr.length).map (markAt p k.ls)){f:Nat}(hf:f<k.mr.length):k.mr.getD f 0=markAt p k.ls f:=by
 rw[hm,List.getD_eq_getElem?_getD,List.getElem?_map,List.getElem?_range hf];rfl
theorem held_of {p:Pr}{G:List (List UInt8)}{k:Ks}(hm:k.mr=(List.range k.mr.length).map (markAt p k.ls))(hl:k.mr.length≤frontL k.ls)(he:Ext k.ls G)
   (hw:∀ i,i<k.ps.length→wordOk p G (peK k i).frame (peK k i).sum):held k:=λi hi ⟨_,h1,h2,h3⟩=>h3 (by
 rw[marks_at hm (by omega),← he.markAt (p:=p) (f:=(peK k i).frame-1) (by omega)]
 exact ((hw i hi).2 (by omega)).symm)
theorem play_calm {p:Pr}{G:List (List UInt8)}:∀ (n:Nat) {s:Pl},WP p s→Ext s.k.ls G→(∀ i,i<s.k.ps.length→wordOk p G (peK s.k i).frame (peK s.k i).sum)→n≤frontK s.k-s.k.mr.length →
   ∃ mr,(playN p n s).k={ s.k with mr:=mr }
 | 0,s,_,_,_,_=>⟨s.k.mr,rfl⟩
 | n+1,s,h,he,hw,hn=>by
   have h9:=h.wc.frontt
   have h8:=h.wc.headt
   obtain⟨h1,h2,h3⟩:=h.one (by omega)
   have hg:frameI p s.k.mr.length (jointL s.k.ls s.k.mr.length) s.g=gameAt p s.k.ls (s.k.mr.length+1):=by rw[gameAt_succ,h.game]
   have hk:(play1 p s).k={ s.k with mr:=s.k.mr++[markAt p s.k.ls s.k.mr.length] }:=by
     show markK s.k _=_
     rw[markK,if_pos (by omega),hg]
     refine held.holdK (held_of (p:=p) (G:=G) ?_ ?_ he hw)
     · show s.k.mr++[_]=(List.range (s.k.mr++[_]).length).map (markAt p s.k.ls)
       rw[List.length_append,List.length_singleton,List.range_succ,List.map_append,← h.marks];rfl
     · show (s.k.mr++[_]).length≤frontL s.k.ls
       rw[List.length_append,List.length_singleton]
       simp only[frontK]at hn;omega
   obtain⟨mr,h4⟩:=play_calm n h1 (by rw[h2];exact he) (λi hi=>by rw[hk]at hi ⊢;exact hw i hi) (by rw[frontK,h2,h3];simp only[frontK]at hn;omega)
   exact⟨mr,by rw[playN,h4,hk]⟩
theorem playP_calm {p:Pr}{G:List (List UInt8)}{s:Pl}(h:WP p s)(he:Ext s.k.ls G)(hw:∀ i,i<s.k.ps.length→wordOk p G (peK s.k i).frame (peK s.k i).sum):∃ mr,(playP p s).k={ s.k with mr:=mr } :=
 play_calm _ h he hw (Nat.le_refl _)
structure Hon (p:Pr)(G:List (List UInt8))(s:Pl):Prop where
 wf:WF' p s
 ext:Ext s.k.ls G
 own:s.k.ls.getD s.k.me []=G.getD s.k.me []
 pe:∀ i,i<s.k.ps.length→(peK s.k i).apart=false∧wordOk p G (peK s.k i).frame (peK s.k i).sum
structure HonPk (p:Pr)(G:List (List UInt8))(q:Pk):Prop where
 may:mayPk q
 sum:q.sum<4294967296
 seg:q.kind=1→q.first.toNat+q.press.length≤(G.getD q.from'.toNat []).length∧q.press=((G.getD q.from'.toNat []).drop q.first.toNat).take q.press.length
 word:q.kind=1→wordOk p G q.frame.toNat q.sum
theorem HonPk.ext {p:Pr}{G G':List (List UInt8)}{q:Pk}(h:HonPk p G q)(he:Ext G G')(h0:G≠[])(hq:q.from'.toNat<G.length):HonPk p G' q:=by
 refine⟨h.may,h.sum,λhk=>?_,λhk=>(h.word hk).ext he h0⟩
 obtain⟨h1,h2⟩:=h.seg hk
 obtain⟨t,ht⟩:=he.2 _ hq
 rw[ht,List.length_append]
 refine⟨by omega,?_⟩
 rw[List.drop_append_of_le_length (by omega),List.take_append_of_le_length (by rw[List.length_drop];omega)]
 exact h2
section
variable {p:Pr}{G G':List (List UInt8)}{s:Pl}{b:UInt8}{q:Pk}
theorem Hon.words (h:Hon p G s):∀ i,i<s.k.ps.length→wordOk p G (peK s.k i).frame (peK s.k i).sum:=λi hi=>(h.pe i hi).2
theorem Hon.lens (h:Hon p G s):G.length=s.k.n:=by rw[h.ext.1];exact h.wf.wc.ls
theorem Hon.gne (h:Hon p G s):G≠[]:=λe=>by
 have h1:=h.lens
 have h2:=h.wf.wc.n
 rw[e,List.length_nil]at h1;omega
theorem Hon.more (h:Hon p G s)(he:Ext G G')(ho:G'.getD s.k.me []=G.getD s.k.me []):Hon p G' s :=
 ⟨h.wf,h.ext.trans he,h.own.trans ho.symm,λi hi=>⟨(h.pe i hi).1,(h.pe i hi).2.ext he h.gne⟩⟩
theorem Hon.press (h:Hon p G s)(h0:(pressP p b s).1=0) :
   Hon p (G.set s.k.me (G.getD s.k.me []++[b])) (pressP p b s).2∧∃ mr,(pressP p b s).2.k={ s.k with ls:=s.k.ls.set s.k.me (s.k.ls.getD s.k.me []++[b]),mr:=mr }:=by
 obtain⟨h1,h2,h3,h4⟩:=press_ls (k:=s.k) (b:=b) h0
 have he:=press_ext b s.k
 have hwp:=h.wf.toWP.more (h.wf.wc.press b) (h.wf.held.press b) he.1 he.2
 have hme:s.k.me<s.k.ls.length:=by rw[h.wf.wc.ls];exact h.wf.wc.me
 have hmg:s.k.me<G.length:=by rw[h.ext.1];exact hme
 have hG:Ext G (G.set s.k.me (G.getD s.k.me []++[b])):=Ext.set
 have hx:Ext (pressK b s.k).2.ls (G.set s.k.me (G.getD s.k.me []++[b])):=by
   rw[h4]
   refine⟨by simp only[List.length_set];exact h.ext.1,λi hi=>?_⟩
   simp only[List.length_set]at hi
   by_cases e:i=s.k.me
   · subst e
     refine⟨[],?_⟩
     simp only
     rw[List.getD_eq_getElem?_getD,List.getElem?_set_self hmg,List.getD_eq_getElem?_getD (l:=s.k.ls.set _ _),List.getElem?_set_self hme,h.own];simp
   · obtain⟨t,ht⟩:=h.ext.2 i hi
     refine⟨t,?_⟩
     simp only
     rw[List.getD_eq_getElem?_getD,List.getElem?_set_ne (λe2=>e e2.symm),List.getD_eq_getElem?_getD (l:=s.k.ls.set _ _),List.getElem?_set_ne (λe2=>e e2.symm),← List.getD_eq_getElem?_getD,← List.getD_eq_getElem?_getD]
     exact ht
 have hps:(pressK b s.k).2.ps=s.k.ps:=by rw[h4]
 have hww:∀ i,i<s.k.ps.length→wordOk p (G.set s.k.me (G.getD s.k.me []++[b])) (peK (pressK b s.k).2 i).frame (peK (pressK b s.k).2 i).sum:=λi hi=>by
   have:=(h.words i hi).ext hG h.gne
   rw[peK,hps];exact this
 obtain⟨mr,hk⟩:=playP_calm (s:=⟨(pressK b s.k).2,s.g⟩) hwp hx (λi hi=>hww i (by rw[← hps];exact hi))
 have hk2:(pressP p b s).2.k={ (pressK b s.k).2 with mr:=mr }:=hk
 refine⟨⟨h.wf.press b,by rw[hk2];exact hx,?_,λi hi=>?_⟩,mr,by rw[hk2,h4]⟩
 · rw[hk2]
   show (pressK b s.k).2.ls.getD (pressK b s.k).2.me []=(G.set s.k.me (G.getD s.k.me []++[b])).getD (pressK b s.k).2.me []
   rw[h4]
   simp only
   rw[List.getD_eq_getElem?_getD,List.getElem?_set_self hme,List.getD_eq_getElem?_getD (l:=G.set _ _),List.getElem?_set_self hmg,h.own]
 · rw[hk2]at hi ⊢
   have hi2:i<s.k.ps.length:=by rw[← hps];exact hi
   refine⟨?_,hww i hi2⟩
   show (peK (pressK b s.k).2 i).apart=false
   rw[peK,hps];exact (h.pe i hi2).1
theorem press_stay (h:WF' p s)(h0:(pressP p b s).1≠0):(pressP p b s).2=s:=by
 show playP p ⟨(pressK b s.k).2,s.g⟩=s
 rw[press_no h0];exact h.playP
theorem recv_stay {bs:List UInt8}(h:WF' p s)(h0:(recvP p bs s).1≠0):(recvP p bs s).2=s:=by
 show playP p ⟨(recvK bs s.k).2,s.g⟩=s
 rw[recv_no h0];exact h.playP
theorem putLn_seg {l t P:List UInt8}{f:Nat}(hs:f+P.length≤(l++t).length)(hP:P=((l++t).drop f).take P.length):∃ u,l++t=putLn l f P++u:=by
 unfold putLn
 split
 · exact⟨t,rfl⟩
 · rename_i hf
   have h1:P.drop (l.length-f)=t.take (P.length-(l.length-f)):=by
     conv=>lhs;rw[hP]
     rw[List.drop_take,List.drop_drop,show f+(l.length-f)=l.length from by omega,List.drop_left]
   rw[h1,List.take_take]
   exact⟨t.drop (min (1000-l.length) (P.length-(l.length-f))),by rw[List.append_assoc,List.take_append_drop]⟩
theorem hear_code (h:WF' p s)(hq:mayPk q)(hs:q.sum<4294967296)(hc:s.k.cl=false)(ht:q.to=s.k.me)(hf:q.from'<s.k.n)(hid:q.id=s.k.id):recvK (encO q) s.k=(0,hearK s.k q):=by
 rw[recvK,if_neg (by rw[hc];decide),decO_enc hq hs]
 show (if _ then _ else _)=_
 rw[if_neg]
 rintro (h | h | h)
 · exact h ht
 · omega
 · exact h hid
theorem Hon.hear (h:Hon p G s)(hq:HonPk p G q)(hc:s.k.cl=false)(ht:q.to=s.k.me)(hf:q.from'<s.k.n)(hid:q.id=s.k.id)(h1:q.kind=1) :
   Hon p G (recvP p (encO q) s).2∧(recvP p (encO q) s).1=0∧∃ mr,(recvP p (encO q) s).2.k={ s.k with ls:=s.k.ls.set q.from'.toNat (putLn (s.k.ls.getD q.from'.toNat []) q.first.toNat q.press),ps:=s.k.ps.set q.from'.toNat (hearP s.k.now (headK s.k) q (peK s.k q.from'.toNat)),mr:=mr }:=by
 have hr:=hear_code h.wf hq.may hq.sum hc ht hf hid
 have hfr:q.from'.toNat<s.k.n:=by have:=hq.may.1;omega
 have hne:q.from'.toNat≠s.k.me:=λe=>hq.may.2.2.1 (by have:=hq.may.1;have:=hq.may.2.1;omega)
 have hil:q.from'.toNat<s.k.ls.length:=by rw[h.wf.wc.ls];exact hfr
 have hip:q.from'.toNat<s.k.ps.length:=by rw[h.wf.wc.ps];exact hfr
 obtain⟨t,hGt⟩:=h.ext.2 _ hil
 obtain⟨hs1,hs2⟩:=hq.seg h1
 rw[hGt]at hs1 hs2
 obtain⟨u,hu⟩:=putLn_seg hs1 hs2
 have hx:Ext (s.k.ls.set q.from'.toNat (putLn (s.k.ls.getD q.from'.toNat []) q.first.toNat q.press)) G:=by
   refine⟨by rw[List.length_set];exact h.ext.1,λi hi=>?_⟩
   rw[List.length_set]at hi
   by_cases e:i=q.from'.toNat
   · subst e
     refine⟨u,?_⟩
     rw[List.getD_eq_getElem?_getD (l:=s.k.ls.set _ _),List.getElem?_set_self hil,hGt]
     exact hu
   · obtain⟨t2,ht2⟩:=h.ext.2 i hi
     refine⟨t2,?_⟩
     rw[List.getD_eq_getElem?_getD (l:=s.k.ls.set _ _),List.getElem?_set_ne (λe2=>e e2.symm),← List.getD_eq_getElem?_getD]
     exact ht2
 have hpeq:∀ i,i<s.k.ps.length→(if i=q.from'.toNat then hearP s.k.now (headK s.k) q (peK s.k q.from'.toNat) else peK s.k i).apart=false∧wordOk p G (if i=q.from'.toNat then hearP s.k.now (headK s.k) q (peK s.k q.from'.toNat) else peK s.k i).frame (if i=q.from'.toNat then hearP s.k.now (headK s.k) q (peK s.k q.from'.toNat) else peK s.k i).sum:=λi hi=>by
   by_cases e:i=q.from'.toNat
   · rw[if_pos e]
     have h9:=h.pe _ hip
     unfold hearP
     simp only
     split
     · exact⟨h9.1,hq.word h1⟩
     · exact⟨h9.1,h9.2⟩
   · rw[if_neg e];exact h.pe i hi
 have hpw:∀ i,i<s.k.ps.length→wordOk p G (peK ({ s.k with ls:=s.k.ls.set q.from'.toNat (putLn (s.k.ls.getD q.from'.toNat []) q.first.toNat q.press),ps:=s.k.ps.set q.from'.toNat (hearP s.k.now (headK s.k) q (peK s.k q.from'.toNat)) }:Ks) i).frame (peK ({ s.k with ls:=s.k.ls.set q.from'.toNat (putLn (s.k.ls.getD q.from'.toNat []) q.first.toNat q.press),ps:=s.k.ps.set q.from'.toNat (hearP s.k.now (headK s.k) q (peK s.k q.from'.toNat)) }:Ks) i).sum:=λi hi=>by
   rw[peK,peK_set hip];exact (hpeq i hi).2
 have hh:hearK s.k q={ s.k with ls:=s.k.ls.set q.from'.toNat (putLn (s.k.ls.getD q.from'.toNat []) q.first.toNat q.press),ps:=s.k.ps.set q.from'.toNat (hearP s.k.now (headK s.k) q (peK s.k q.from'.toNat)) }:=by
   rw[hearK,if_neg (by omega)]
   refine held.holdK (held_of (p:=p) (G:=G) ?_ ?_ hx (λi hi=>hpw i (by simpa using hi)))
   · have hr2:=(recv_ext (encO q) s.k).2
     rw[hr]at hr2
     have h5:=hear_ls (k:=s.k) (p:=q)
     rw[hearK,if_neg (by omega)]at h5
     obtain⟨ps,ev,h6,_⟩:=holdK_eq { s.k with ls:=s.k.ls.set q.from'.toNat (putLn (s.k.ls.getD q.from'.toNat []) q.first.toNat q.press),ps:=s.k.ps.set q.from'.toNat (hearP s.k.now (headK s.k) q (peK s.k q.from'.toNat)) }
     rw[h6]at h5
     have h7:Ext s.k.ls (s.k.ls.set q.from'.toNat (putLn (s.k.ls.getD q.from'.toNat []) q.first.toNat q.press)):=h5.2
     show s.k.mr=_
     conv=>lhs;rw[h.wf.marks]
     refine List.map_congr_left λi hi=>?_
     rw[List.mem_range]at hi
     have hl:=h.wf.low
     simp only[frontK]at hl
     rw[h7.markAt (by omega)]
   · have h5:=(hear_ls (k:=s.k) (p:=q)).2
     rw[hearK,if_neg (by omega)]at h5
     obtain⟨ps,ev,h6,_⟩:=holdK_eq { s.k with ls:=s.k.ls.set q.from'.toNat (putLn (s.k.ls.getD q.from'.toNat []) q.first.toNat q.press),ps:=s.k.ps.set q.from'.toNat (hearP s.k.now (headK s.k) q (peK s.k q.from'.toNat)) }
     rw[h6]at h5
     have h7:Ext s.k.ls (s.k.ls.set q.from'.toNat (putLn (s.k.ls.getD q.from'.toNat []) q.first.toNat q.press)):=h5
     exact Nat.le_trans h.wf.low (h7.front h.wf.wc.lne)
 have he:=recv_ext (encO q) s.k
 have hwp:=h.wf.toWP.more (h.wf.wc.recv (encO q)).1 ((h.wf.wc.recv (encO q)).2 h.wf.held) he.1 he.2
 have hrk:(recvK (encO q) s.k).2=hearK s.k q:=by rw[hr]
 obtain⟨mr,hk⟩:=playP_calm (G:=G) (s:=⟨(recvK (encO q) s.k).2,s.g⟩) hwp (by show Ext (recvK (encO q) s.k).2.ls G;rw[hrk,hh];exact hx) (λi hi=>by
   change i<(recvK (encO q) s.k).2.ps.length at hi
   show wordOk p G (peK (recvK (encO q) s.k).2 i).frame (peK (recvK (encO q) s.k).2 i).sum
   rw[hrk,hh]at hi ⊢
   exact hpw i (by simpa using hi))
 have hk2:(recvP p (encO q) s).2.k={ hearK s.k q with mr:=mr }:=by
   have:(recvP p (encO q) s).2.k={ (recvK (encO q) s.k).2 with mr:=mr }:=hk
   rw[this,hrk]
 rw[hh]at hk2
 refine⟨⟨h.wf.recv _,by rw[hk2];exact hx,?_,λi hi=>?_⟩,by show (recvK (encO q) s.k).1=0;rw[hr],mr,hk2⟩
 · rw[hk2]
   show (s.k.ls.set q.from'.toNat _).getD s.k.me []=_
   rw[List.getD_eq_getElem?_getD (l:=s.k.ls.set _ _),List.getElem?_set_ne hne,← List.getD_eq_getElem?_getD]
   exact h.own
 · rw[hk2]at hi ⊢
   have hi2:i<s.k.ps.length:=by simpa using hi
   have:=hpeq i hi2
   rw[peK,peK_set hip];exact this
theorem Hon.bye (h:Hon p G s)(hq:HonPk p G q)(hc:s.k.cl=false)(ht:q.to=s.k.me)(hf:q.from'<s.k.n)(hid:q.id=s.k.id)(h1:q.kind=2) :
   Hon p G (recvP p (encO q) s).2∧(recvP p (encO q) s).1=0∧(recvP p (encO q) s).2.k={ s.k with ps:=s.k.ps.set q.from'.toNat { peK s.k q.from'.toNat with heard:=s.k.now },ev:=s.k.ev++[(1,q.from'.toNat,0)],cl:=true }:=by
 have hr:=hear_code h.wf hq.may hq.sum hc ht hf hid
 have hfr:q.from'.toNat<s.k.n:=by have:=hq.may.1;omega
 have hip:q.from'.toNat<s.k.ps.length:=by rw[h.wf.wc.ps];exact hfr
 have hh:hearK s.k q={ s.k with ps:=s.k.ps.set q.from'.toNat { peK s.k q.from'.toNat with heard:=s.k.now },ev:=s.k.ev++[(1,q.from'.toNat,0)],cl:=true }:=by
   rw[hearK,if_pos h1]
 have hwf:=h.wf.with (k':=hearK s.k q) (by have:=(h.wf.wc.recv (encO q)).1;rw[hr]at this;exact this) (by have:=(h.wf.wc.recv (encO q)).2 h.wf.held;rw[hr]at this;exact this) (by rw[hh]) (by rw[hh])
 have hk:(recvP p (encO q) s).2=⟨hearK s.k q,s.g⟩:=by
   show playP p ⟨(recvK (encO q) s.k).2,s.g⟩=_
   rw[hr];exact hwf.playP
 refine⟨⟨by rw[hk];exact hwf,by rw[hk,hh];exact h.ext,by rw[hk,hh];exact h.own,λi hi=>?_⟩,by show (recvK (encO q) s.k).1=0;rw[hr],by rw[hk,hh]⟩
 rw[hk,hh]at hi ⊢
 have hi2:i<s.k.ps.length:=by simpa using hi
 rw[peK,peK_set hip]
 by_cases e:i=q.from'.toNat
 · rw[if_pos e];exact h.pe _ hip
 · rw[if_neg e];exact h.pe i hi2
theorem Hon.mail (h:Hon p G s){i:Nat}(hi:i<s.k.n)(hne:i≠s.k.me)(hh:(peK s.k i).has≤headK s.k):HonPk p G (mailPk s.k i):=by
 have hwc:=h.wf.wc
 have hn:=hwc.n
 have hme:=hwc.me
 have hid:=hwc.id
 have hpt:=hwc.pet hi
 have hhd:=hwc.headt
 have hli:=hwc.lnt hi
 have hmr:=hwc.mr
 have e1:(mailPk s.k i).from'.toNat=s.k.me:=Int.toNat_natCast _
 have e2:(mailPk s.k i).first.toNat=(peK s.k i).has:=Int.toNat_natCast _
 have e3:(mailPk s.k i).frame.toNat=s.k.mr.length:=Int.toNat_natCast _
 have hown:=h.own
 have hsum:s.k.mr.getLastD 0<4294967296:=by
   rw[List.getLastD_eq_getLast?]
   cases hl:s.k.mr.getLast? with
   | none=>simp
   | some x=>simpa using hwc.mrs x (List.mem_of_getLast? hl)
 refine⟨?_,hsum,λ_=>?_,λ_=>?_⟩
 · refine⟨⟨?_,?_⟩,⟨?_,?_⟩,?_,?_,.inl ⟨rfl,⟨?_,?_⟩,⟨?_,?_⟩,⟨?_,?_⟩,?_⟩⟩
   all_goals first | (simp only[mailPk];omega) | skip
   · show (((s.k.ls.getD s.k.me []).drop (peK s.k i).has).take 32).length≤32
     rw[List.length_take];omega
 · rw[e1,e2,← hown]
   show _+(((s.k.ls.getD s.k.me []).drop (peK s.k i).has).take 32).length≤_∧((s.k.ls.getD s.k.me []).drop (peK s.k i).has).take 32=((s.k.ls.getD s.k.me []).drop _).take (((s.k.ls.getD s.k.me []).drop (peK s.k i).has).take 32).length
   rw[List.length_take,List.length_drop]
   simp only[headK]at hh
   refine⟨by omega,?_⟩
   rw[List.take_eq_take_iff,List.length_drop];omega
 · rw[e3]
   have hfl:s.k.mr.length=frontL s.k.ls:=h.wf.full
   refine⟨by rw[hfl];exact h.ext.front hwc.lne,λh0=>?_⟩
   have hlast:s.k.mr.getLastD 0=s.k.mr.getD (s.k.mr.length-1) 0:=by
     rw[List.getLastD_eq_getLast?,List.getLast?_eq_getElem?,List.getD_eq_getElem?_getD]
   show s.k.mr.getLastD 0=_
   rw[hlast,marks_at h.wf.marks (by omega),h.ext.markAt (by omega)]
theorem Hon.tick (h:Hon p G s):Hon p G ⟨(tickK s.k).2,s.g⟩:=by
 have h1:=tick_same s.k
 have h2:(tickK s.k).2.me=s.k.me∧(tickK s.k).2.ps=s.k.ps:=by
   rcases tickK_k s.k with e | ⟨_,e | ⟨i,_,e⟩⟩ <;> rw[e] <;> exact⟨rfl,rfl⟩
 refine⟨h.wf.tick,by show Ext (tickK s.k).2.ls G;rw[h1.2];exact h.ext,?_,λi hi=>?_⟩
 · show (tickK s.k).2.ls.getD (tickK s.k).2.me []=G.getD (tickK s.k).2.me []
   rw[h1.2,h2.1];exact h.own
 · change i<(tickK s.k).2.ps.length at hi
   rw[h2.2]at hi
   show (peK (tickK s.k).2 i).apart=false∧wordOk p G (peK (tickK s.k).2 i).frame (peK (tickK s.k).2 i).sum
   rw[peK,h2.2];exact h.pe i hi
end
end
end Go.Proofs.YteoldcfapaiobaaGreat
