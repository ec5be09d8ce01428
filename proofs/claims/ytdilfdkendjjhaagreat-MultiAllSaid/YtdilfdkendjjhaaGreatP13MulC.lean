/- quintainlaw26.branches. -/
import Derived.Test.YtdilfdkendjjhaaGreatP12RefG
import Derived.Test.YtdilfdkendjjhaaGreatP10MulM
import Derived.Test.YtdilfdkendjjhaaGreatRows
import Derived.KernelRfl
import Derived.JoinedOf
namespace Go.Proofs.YtdilfdkendjjhaaGreat
open Go.RowKit
set_option linter.unusedVariables false
set_option linter.unusedSimpArgs false
set_option maxRecDepth 10000
set_option synthInstance.maxSize 4000
set_option synthInstance.maxHeartbeats 400000
section
theorem knP_atB {ls:List (List UInt8)}{f i q:Nat}{P:List (List UInt8)}(h:knP ls f P=true)(hi:i<P.length)(hq:q<(P.getD i []).length)(h1:f+i<(ls.getD q []).length):(ls.getD q []).getD (f+i) 0=(P.getD i []).getD q 0:=by
 rw[knP,List.all_eq_true]at h
 have h2:=h i (List.mem_range.2 hi)
 rw[knB,List.all_eq_true]at h2
 have h3:=h2 q (List.mem_range.2 hq)
 rw[decide_eq_true h1,Bool.true_and]at h3
 simpa using h3
theorem RdX.takeN {w:World}{ad:Option Addr}{zs:List BBx}(h:RdX w ad zs)(n:Nat):RdX w ad (zs.take n):=by
 refine⟨λh0=>?_,λx hx=>h.2 x (List.mem_of_mem_take hx)⟩
 obtain⟨b,off,e,hr⟩:=h.1 (by rw[List.length_take]at h0;omega)
 refine⟨b,off,e,λj v hj=>hr j v ?_⟩
 rw[List.map_take,List.getElem?_take]at hj
 split at hj
 · exact hj
 · cases hj
theorem RdB.cell {w:World}{ad:Option Addr}{n b o i:Nat}{bs:List UInt8}(h:RdB w ad n bs)(he:ad=some ⟨b,o,none⟩)(hi:i<bs.length):w.cell? ⟨b,o+i,none⟩=some (.int .u8 ((bs.getD i 0).toNat:Nat)):=by
 obtain⟨b',o',h1,h2⟩:=h.get (by have:=h.1;omega)
 rw[he]at h1;cases h1
 exact h2 i _ (bc_atD hi)
section
variable {W w:World}{L L':List SP}{N:Nat}{M:MuB}{B:RgB}{p:Pr}{m:Mu}
set_option maxHeartbeats 4000000 in
theorem branches_spec (hs:St W w (MuS W M p m::RefG W B p m.s::L))(h:MI p M N m)(hpr:prOk p)(hsz:p.title.size≤1000000000) :
   Calls Tryz.prog 23 #[pt M.mb,pt B.pb] w λe w'=>e=.returned (.bool true)∧St W w' (MuS W M p m::RefG W B p m.s::L):=by
 have hw:=h.wf
 have hhd:=hw.wc.headt
 have hft:=hw.wc.frontt
 have hls:=hw.wc.ls
 have hn8:=hw.wc.n
 obtain⟨t,hI⟩:=h.inv
 have hBr:=h.brs
 have hT:=Tree.wt ((MuS.open hs).tree M.tq)
 have hTm:=hT.most
 obtain⟨A,hs⟩:=RefS.open ((RefG.open (hs.pick (RefG W B p m.s))).pick (RefS B.core m.s.k))
 refine EN Tryz.func23 Tryz.ntmps23 rfl rfl λa ha=>?_
 refine CL 4 ha hs (mu_tree (hs.pick (MuS W M p m))) λa w ha hs=>?_
 replace hs:=MuS.open hs
 refine CL2 0 ha hs (tree_all (hs.tree M.tq)) λadl cl a w ha hs=>?_
 refine RN 1 ha hs λa ha=>?_
 obtain⟨xs,hx1,hx2,hs⟩:=OwnBr.open hs
 have hxl:xs.length=m.T.l.length:=by rw[← hx1,List.length_map]
 replace hs:=MuS.fold hs M p m
 refine RN 3 ha hs λa ha=>?_
 refine wp_loop_ghost (λμ a w=>∃ (i:Nat),(μ=m.T.l.length-i∧i≤m.T.l.length)∧Fr a 172 [(0,pt M.mb),(1,pt B.pb),(5,.slice adl m.T.l.length cl),(6,.int .i64 i)]∧St W w (Sl 45 5 adl m.T.l.length cl (rows brc xs)::All bro xs::MuS W M p m::blk B.pb 65 (rgC p B m.s.g)::RoP W p B.adO B.cO::blk B.core.cb 83 (rcC m.s.k B.core A)::RLn B.core.lb B.core.lo B.core.cL m.s.k.ls::blk B.core.hb 3 (heC m.s.k.ps)::blk B.core.ab 3 (haC m.s.k.ps)::blk B.core.wb 244 (rows wdC m.s.k.ps)::blk B.core.xb 4 (apC m.s.k.ps)::Sl 68 1 A.adM m.s.k.mr.length A.cM (mrC m.s.k.mr)::Sl 223 3 A.adE m.s.k.ev.length A.cE (rows rawC m.s.k.ev)::L)) (m.T.l.length) (⟨0,⟨rfl,by omega⟩,ha.keep [0,1,5,6],hs.sub⟩) ?_
 clear ha hs
 rintro μ a w ⟨i,⟨rfl,hi⟩,ha,hs⟩
 refine IF 6 ha hs (λhc0 a ha=>?_) λhc0 a ha=>?_
 ·
  obtain⟨⟨x,ax,cx⟩,hx⟩:∃ x,xs[i]?=some x:=⟨_,List.getElem?_eq_getElem (by omega)⟩
  have hxT:x∈m.T.l:=by rw[← hx1];exact List.mem_map.2 ⟨_,List.mem_of_getElem? hx,rfl⟩
  obtain⟨i2,px,hpx,hpid⟩:=hI.ofBr hxT
  have hgx:=(hI.brs x hxT).2 px (List.mem_of_getElem? hpx) hpid
  have hfx:=(hI.brs x hxT).1
  obtain⟨hxj,hxk⟩:=hBr x hxT
  have hxo:=hT.ok x hxT
  have hxl6:=hxo.1.1
  obtain⟨bl,ol,rfl,hrl⟩:=hs.slRd adl (by omega)
  clear hrl
  obtain⟨zs,hz,hzc,hs⟩:=St.brOut (hs.pick (All bro xs)) hx
  have hzl:zs.length=x.press.length:=by rw[← hz,List.length_map]
  have hS:∀ w,St W w (Sl 22 1 ax x.press.length cx (zs.map bbv)::All bbo zs::All bro (xs.eraseIdx i)::Sl 45 5 (some ⟨bl,ol,none⟩) m.T.l.length cl (rows brc xs)::MuS W M p m::blk B.pb 65 (rgC p B m.s.g)::RoP W p B.adO B.cO::blk B.core.cb 83 (rcC m.s.k B.core A)::RLn B.core.lb B.core.lo B.core.cL m.s.k.ls::blk B.core.hb 3 (heC m.s.k.ps)::blk B.core.ab 3 (haC m.s.k.ps)::blk B.core.wb 244 (rows wdC m.s.k.ps)::blk B.core.xb 4 (apC m.s.k.ps)::Sl 68 1 A.adM m.s.k.mr.length A.cM (mrC m.s.k.mr)::Sl 223 3 A.adE m.s.k.ev.length A.cE (rows rawC m.s.k.ev)::L)→Rd w bl (ol+i*5) (brC x ax cx)∧RdX w ax zs:=λw h=>⟨row_rd (h.slRdAt bl ol (by omega)) hx,St.rdX (h.sub (M:=Sl 22 1 ax x.press.length cx (zs.map bbv)::All bbo zs::[]))⟩
  replace hs:=hs.sub (M:=Sl 22 1 ax x.press.length cx (zs.map bbv)::All bbo zs::All bro (xs.eraseIdx i)::Sl 45 5 (some ⟨bl,ol,none⟩) m.T.l.length cl (rows brc xs)::MuS W M p m::blk B.pb 65 (rgC p B m.s.g)::RoP W p B.adO B.cO::blk B.core.cb 83 (rcC m.s.k B.core A)::RLn B.core.lb B.core.lo B.core.cL m.s.k.ls::blk B.core.hb 3 (heC m.s.k.ps)::blk B.core.ab 3 (haC m.s.k.ps)::blk B.core.wb 244 (rows wdC m.s.k.ps)::blk B.core.xb 4 (apC m.s.k.ps)::Sl 68 1 A.adM m.s.k.mr.length A.cM (mrC m.s.k.mr)::Sl 223 3 A.adE m.s.k.ev.length A.cE (rows rawC m.s.k.ev)::L)
  refine DWC 3 (λw0 w'=>Rd w' bl (ol+i*5) (brC x ax cx)∧Rd w' B.pb 0 (rgC p B m.s.g)) [8,9,21,22] [0,1,2,3,5,6,7,3004,1008,1009,10,11,12,13,14,15,17,18,19,20,3016,1021,1022,23,24] ha hs λa w ha hs hH=>?_
  have hC:=hH.at w ⟨(hS _ hs).1,hs.rdAll (b:=B.pb)⟩
  refine RH 7 ha hs hH hC λa ha=>?_
  refine QH ha (λw hc=>ld1 ha (hc.1 1 _ rfl)) hC λa ha=>?_
  rw[hfx]at ha
  refine RH 0 ha hs hH hC λa ha=>?_
  refine SS ha (ld1 ha (hC.2 0 _ rfl)) λa ha=>?_
  refine RH 0 ha hs hH hC λa ha=>?_
  refine CL 0 ha hs (ref_frontA ((hs.pick (blk B.core.cb 83 (rcC m.s.k B.core A))).pick (RLn B.core.lb B.core.lo B.core.cL m.s.k.ls)) hw.wc) λa w ha hs=>?_
  replace hC:=hH.at w ⟨(hS _ hs.sub).1,hs.rdAll (b:=B.pb)⟩
  refine RH 2 ha hs hH hC λa ha=>?_
  rw[decide_eq_false (by omega)]at ha
  refine RH 8 ha hs hH hC λa ha=>?_
  refine QH ha (λw hc=>ld1 ha (hc.1 3 _ rfl)) hC λa ha=>?_
  refine RH 0 ha hs hH hC λa ha=>?_
  refine st_set ha (wgT ha rfl (s:=33)) (ld1 ha (hC.1 2 _ rfl)) rfl λa ha=>?_
  refine RH 3 ha hs hH hC λa ha=>?_
  rw[decide_eq_false (by omega)]at ha
  refine RN 4 ha hs λa ha=>?_
  refine wp_loop_ghost (λμ a w=>∃ (k:Nat),(μ=x.press.length-k∧k≤x.press.length)∧Fr a 172 [(0,pt M.mb),(1,pt B.pb),(5,.slice (some ⟨bl,ol,none⟩) m.T.l.length cl),(6,.int .i64 i),(7,.int .i64 k)]∧St W w (Sl 22 1 ax x.press.length cx (zs.map bbv)::All bbo zs::All bro (xs.eraseIdx i)::Sl 45 5 (some ⟨bl,ol,none⟩) m.T.l.length cl (rows brc xs)::MuS W M p m::blk B.pb 65 (rgC p B m.s.g)::RoP W p B.adO B.cO::blk B.core.cb 83 (rcC m.s.k B.core A)::RLn B.core.lb B.core.lo B.core.cL m.s.k.ls::blk B.core.hb 3 (heC m.s.k.ps)::blk B.core.ab 3 (haC m.s.k.ps)::blk B.core.wb 244 (rows wdC m.s.k.ps)::blk B.core.xb 4 (apC m.s.k.ps)::Sl 68 1 A.adM m.s.k.mr.length A.cM (mrC m.s.k.mr)::Sl 223 3 A.adE m.s.k.ev.length A.cE (rows rawC m.s.k.ev)::L)) (x.press.length) (⟨0,⟨rfl,by omega⟩,ha.keep [0,1,5,6,7],hs.sub⟩) ?_
  clear ha hs
  rintro μ a w ⟨k,⟨rfl,hk⟩,ha,hs⟩
  refine RN 7 ha hs λa ha=>?_
  refine SS ha (ld1 ha ((hS _ hs).1 2 _ rfl)) λa ha=>?_
  refine IF 2 ha hs (λhc2 a ha=>?_) λhc2 a ha=>?_
  ·
   have hkl:k<zs.length:=by omega
   obtain⟨bx,ox,z,hade,hzi,hcell,hrz⟩:=(hS _ hs).2.at hkl
   have hzp:x.press.getD k []=z.2.2:=by rw[List.getD_eq_getElem?_getD,← hz,List.getElem?_map,hzi];rfl
   have hzn:z.2.2.length=m.s.k.n:=hxj _ (by rw[← hz];exact List.mem_map.2 ⟨z,List.mem_of_getElem? hzi,rfl⟩)
   refine RN 6 ha hs λa ha=>?_
   refine SS ha (ld1 ha ((hS _ hs).1 2 _ rfl)) λa ha=>?_
   refine RN 1 ha hs λa ha=>?_
   rw[hade]at ha
   refine RN 1 ha hs λa ha=>?_
   refine SS ha (ld1 ha (hcell)) λa ha=>?_
   rw[bbv]at ha
   refine RN 14 ha hs λa ha=>?_
   rw[decide_eq_false (by omega)]at ha
   refine RN 3 ha hs λa ha=>?_
   refine wp_loop_ghost (λμ a w=>∃ (v:Nat),(μ=m.s.k.n-v∧v≤m.s.k.n)∧Fr a 172 [(0,pt M.mb),(1,pt B.pb),(5,.slice (some ⟨bl,ol,none⟩) m.T.l.length cl),(6,.int .i64 i),(7,.int .i64 k),(8,.slice z.1 z.2.2.length z.2.1),(9,.int .i64 v)]∧St W w (Sl 22 1 ax x.press.length cx (zs.map bbv)::All bbo zs::All bro (xs.eraseIdx i)::Sl 45 5 (some ⟨bl,ol,none⟩) m.T.l.length cl (rows brc xs)::MuS W M p m::blk B.pb 65 (rgC p B m.s.g)::RoP W p B.adO B.cO::blk B.core.cb 83 (rcC m.s.k B.core A)::RLn B.core.lb B.core.lo B.core.cL m.s.k.ls::blk B.core.hb 3 (heC m.s.k.ps)::blk B.core.ab 3 (haC m.s.k.ps)::blk B.core.wb 244 (rows wdC m.s.k.ps)::blk B.core.xb 4 (apC m.s.k.ps)::Sl 68 1 A.adM m.s.k.mr.length A.cM (mrC m.s.k.mr)::Sl 223 3 A.adE m.s.k.ev.length A.cE (rows rawC m.s.k.ev)::L)) (m.s.k.n) (⟨0,⟨rfl,by omega⟩,ha.keep [0,1,5,6,7,8,9],hs.sub⟩) ?_
   clear ha hs
   rintro μ a w ⟨v,⟨rfl,hv⟩,ha,hs⟩
   refine IF 12 ha hs (λhc4 a ha=>?_) λhc4 a ha=>?_
   ·
    have hvz:v<z.2.2.length:=by omega
    obtain⟨bz,oz,hz1,_⟩:=((hS _ hs).2.2 z (List.mem_of_getElem? hzi)).get (by omega)
    refine RN 6 ha hs λa ha=>?_
    refine SS ha (ld1 ha ((hS _ hs).1 1 _ rfl)) λa ha=>?_
    rw[hfx]at ha
    refine RN 2 ha hs λa ha=>?_
    rw[show ((frontK m.s.k:Nat):Int)+(k:Int)=((frontK m.s.k+k:Nat):Int) from rfl]at ha
    refine RN 2 ha hs λa ha=>?_
    obtain⟨ys,hys,hs⟩:=RLn.open (hs.pick (RLn B.core.lb B.core.lo B.core.cL m.s.k.ls))
    have hyl:ys.length=m.s.k.ls.length:=by rw[← hys,prx_len]
    obtain⟨b9,o9,y,hbe,hy,_,_⟩:=(St.rdXe hs).at (i:=v) (by omega)
    cases hbe
    have hyv:m.s.k.ls.getD v []=y.2.2:=by rw[← hys,prx_get hy]
    have hkn:frontK m.s.k+k<y.2.2.length→y.2.2.getD (frontK m.s.k+k) 0=z.2.2.getD v 0:=λh1=>by
      have:=knP_atB (i:=k) (q:=v) hxk (by omega) (by rw[hzp];exact hvz) (by rw[hyv];exact h1)
      rw[hyv,hzp]at this;exact this
    have hQ:∀ w,St W w (Sl 128 1 (some ⟨B.core.lb,B.core.lo,none⟩) m.s.k.ls.length B.core.cL (ys.map bbv)::All bbo ys::Sl 22 1 ax x.press.length cx (zs.map bbv)::All bbo zs::blk B.pb 65 (rgC p B m.s.g)::blk B.core.cb 83 (rcC m.s.k B.core A)::[])→(Rd w B.pb 0 (rgC p B m.s.g)∧Rd w B.core.cb 0 (rcC m.s.k B.core A))∧(w.cell? ⟨B.core.lb,B.core.lo+v,none⟩=some (bbv y)∧RdB w y.1 y.2.2.length y.2.2)∧RdB w z.1 z.2.2.length z.2.2:=λw h=>by
      obtain⟨b8,o8,y2,hbe2,hy2,hc2,hr2⟩:=(St.rdXe h).at (i:=v) (by omega)
      cases hbe2
      rw[hy]at hy2;cases hy2
      exact⟨⟨h.rdAll (b:=B.pb),h.rdAll (b:=B.core.cb)⟩,⟨hc2,hr2⟩,(St.rdX (h.sub (M:=Sl 22 1 ax x.press.length cx (zs.map bbv)::All bbo zs::[]))).2 z (List.mem_of_getElem? hzi)⟩
    refine DWC 0 (λw0 w'=>(Rd w' B.pb 0 (rgC p B m.s.g)∧Rd w' B.core.cb 0 (rcC m.s.k B.core A))∧(w'.cell? ⟨B.core.lb,B.core.lo+v,none⟩=some (bbv y)∧RdB w' y.1 y.2.2.length y.2.2)∧RdB w' z.1 z.2.2.length z.2.2) [32] [0,1,2,3,8,1004,5,6,1007,9,10,1011,12,13,14,15,16,17,22,26,29,30,31,3018,19,20,3021,23,24,3025,27,3028,1032,33,34] ha hs λa w ha hs hH=>?_
    have hC:=hH.at w (hQ _ hs.sub)
    refine RH 5 ha hs hH hC λa ha=>?_
    refine SS ha (ld1 ha (hC.1.1 0 _ rfl)) λa ha=>?_
    refine RH 2 ha hs hH hC λa ha=>?_
    refine SS ha (ld1 ha (hC.1.2 10 _ rfl)) λa ha=>?_
    refine RH 2 ha hs hH hC λa ha=>?_
    refine SS ha (ld1 ha (hC.2.1.1)) λa ha=>?_
    rw[bbv]at ha
    refine RH 3 ha hs hH hC λa ha=>?_
    refine ha.by (s:=109) (λhg14 ha=>?_) (λhg14 ha=>?_)
    ·
     obtain⟨by9,oy9,hye,_⟩:=hC.2.1.2.get (by omega)
     have hlt9:frontK m.s.k+k<y.2.2.length:=by omega
     have hkn2:=hkn hlt9
     refine RH 7 ha hs hH hC λa ha=>?_
     rw[hz1]at ha
     refine RH 1 ha hs hH hC λa ha=>?_
     refine QH ha (λw hc=>ld1 ha (hc.1.1 0 _ rfl)) hC λa ha=>?_
     refine RH 2 ha hs hH hC λa ha=>?_
     refine QH ha (λw hc=>ld1 ha (hc.1.2 10 _ rfl)) hC λa ha=>?_
     refine RH 2 ha hs hH hC λa ha=>?_
     refine QH ha (λw hc=>ld1 ha (hc.2.1.1)) hC λa ha=>?_
     rw[bbv]at ha
     rw[hye]at ha
     refine RH 1 ha hs hH hC λa ha=>?_
     refine QH ha (λw hc=>ld1 ha (RdB.cell hc.2.1.2 hye hlt9)) hC λa ha=>?_
     rw[hkn2]at ha
     refine RH 0 ha hs hH hC λa ha=>?_
     refine st_set ha (wgT ha rfl (s:=109)) (ld1 ha (RdB.cell hC.2.2 hz1 hvz)) rfl λa ha=>?_
     refine RH 1 ha hs hH hC λa ha=>?_
     rw[dne]at ha
     refine RH 1 ha hs hH hC λa ha=>?_
     replace ha:=ha.isF 129
     refine RN 4 ha hs λa ha=>?_
     rw[← hz1]at ha
     exact⟨m.s.k.n-(v+1),by omega,v+1,⟨rfl,by omega⟩,ha.keep [0,1,5,6,7,8,9],(RLn.close (hs.sub (M:=Sl 128 1 (some ⟨B.core.lb,B.core.lo,none⟩) m.s.k.ls.length B.core.cL (ys.map bbv)::All bbo ys::Sl 22 1 ax x.press.length cx (zs.map bbv)::All bbo zs::All bro (xs.eraseIdx i)::Sl 45 5 (some ⟨bl,ol,none⟩) m.T.l.length cl (rows brc xs)::MuS W M p m::blk B.pb 65 (rgC p B m.s.g)::RoP W p B.adO B.cO::blk B.core.cb 83 (rcC m.s.k B.core A)::blk B.core.hb 3 (heC m.s.k.ps)::blk B.core.ab 3 (haC m.s.k.ps)::blk B.core.wb 244 (rows wdC m.s.k.ps)::blk B.core.xb 4 (apC m.s.k.ps)::Sl 68 1 A.adM m.s.k.mr.length A.cM (mrC m.s.k.mr)::Sl 223 3 A.adE m.s.k.ev.length A.cE (rows rawC m.s.k.ev)::L)) hys).sub⟩
    refine RH 20 ha hs hH hC λa ha=>?_
    refine RN 4 ha hs λa ha=>?_
    exact⟨m.s.k.n-(v+1),by omega,v+1,⟨rfl,by omega⟩,ha.keep [0,1,5,6,7,8,9],(RLn.close (hs.sub (M:=Sl 128 1 (some ⟨B.core.lb,B.core.lo,none⟩) m.s.k.ls.length B.core.cL (ys.map bbv)::All bbo ys::Sl 22 1 ax x.press.length cx (zs.map bbv)::All bbo zs::All bro (xs.eraseIdx i)::Sl 45 5 (some ⟨bl,ol,none⟩) m.T.l.length cl (rows brc xs)::MuS W M p m::blk B.pb 65 (rgC p B m.s.g)::RoP W p B.adO B.cO::blk B.core.cb 83 (rcC m.s.k B.core A)::blk B.core.hb 3 (heC m.s.k.ps)::blk B.core.ab 3 (haC m.s.k.ps)::blk B.core.wb 244 (rows wdC m.s.k.ps)::blk B.core.xb 4 (apC m.s.k.ps)::Sl 68 1 A.adM m.s.k.mr.length A.cM (mrC m.s.k.mr)::Sl 223 3 A.adE m.s.k.ev.length A.cE (rows rawC m.s.k.ev)::L)) hys).sub⟩
   refine RN 3 ha hs λa ha=>?_
   exact⟨x.press.length-(k+1),by omega,k+1,⟨rfl,by omega⟩,ha.keep [0,1,5,6,7],hs.sub⟩
  refine RN 0 ha hs λa ha=>?_
  refine wp_seq_cut (M:=λa w=>∃ b11:Nat,Fr a 172 [(0,pt M.mb),(1,pt B.pb),(5,.slice (some ⟨bl,ol,none⟩) m.T.l.length cl),(6,.int .i64 i),(11,pt b11),(12,.bool true)]∧St W w (blk b11 116 (ints .i32 32 px.g)::Sl 22 1 ax x.press.length cx (zs.map bbv)::All bbo zs::All bro (xs.eraseIdx i)::Sl 45 5 (some ⟨bl,ol,none⟩) m.T.l.length cl (rows brc xs)::MuS W M p m::blk B.pb 65 (rgC p B m.s.g)::RoP W p B.adO B.cO::blk B.core.cb 83 (rcC m.s.k B.core A)::RLn B.core.lb B.core.lo B.core.cL m.s.k.ls::blk B.core.hb 3 (heC m.s.k.ps)::blk B.core.ab 3 (haC m.s.k.ps)::blk B.core.wb 244 (rows wdC m.s.k.ps)::blk B.core.xb 4 (apC m.s.k.ps)::Sl 68 1 A.adM m.s.k.mr.length A.cM (mrC m.s.k.mr)::Sl 223 3 A.adE m.s.k.ev.length A.cE (rows rawC m.s.k.ev)::L)) ?_ ?_
  ·
   refine DWC 0 (λw0 w'=>Rd w' bl (ol+i*5) (brC x ax cx)) [1,11] [0,2,3,4,5,3006,2001,2007,8,9,10,1011,1012,13] ha hs λa w ha hs hH=>?_
   have hC:=hH.at w ((hS _ hs).1)
   refine RH 5 ha hs hH hC λa ha=>?_
   refine QH ha (λw hc=>ld1 ha (hc 4 _ rfl)) hC λa ha=>?_
   refine RH 0 ha hs hH hC λa ha=>?_
   refine DN [(1,[2007,8,9,10,1011,1012,13]),(11,[1001,1007,8,9,10,1012,13])] (by kernel_rfl) rfl ⟨⟨_,rfl,?_⟩,⟨_,rfl,?_⟩,trivial⟩
   ·
    refine RH 0 ha hs hH hC λa ha=>?_
    refine CL 0 ha hs (mu_store (hs.pick (MuS W M p m))) λa w ha hs=>?_
    replace hC:=hH.at w ((hS _ hs.sub).1)
    refine RH 0 ha hs hH hC λa ha=>?_
    refine DN [(7,[8,9,10,1011,1012,13]),(11,[1007,8,9,10,1012,13])] (by kernel_rfl) rfl ⟨⟨_,rfl,?_⟩,⟨_,rfl,?_⟩,trivial⟩
    ·
     replace hs:=MuS.open (hs.pick (MuS W M p m))
     refine RH 0 ha hs hH hC λa ha=>?_
     refine CL 0 ha hs (snap_state_id (hs.store M.sq) hpx hpid) λa w ha hs=>?_
     replace hs:=MuS.fold hs M p m
     refine RN 3 ha hs λa ha=>?_
     refine st_alloc ha rfl hs Ty.t116 rfl λb11 a w ha hs ho=>?_
     clear ho
     replace hC:=hH.at w ((hS _ hs.sub).1)
     change St W w (blk b11 116 (ints .i32 32 (λ_=>0))::_) at hs
     refine RH 0 ha hs hH hC λa ha=>?_
     refine SA 0 ha hs λa w ha hs=>?_
     refine RN 1 ha hs λa ha=>?_
     exact⟨_,ha.keep [0,1,5,6,11,12],hs.sub⟩
    refine RH 0 ha hs hH hC λa ha=>?_
    refine st_alloc ha rfl hs Ty.t116 rfl λb11 a w ha hs ho=>?_
    clear ho
    replace hC:=hH.at w ((hS _ hs.sub).1)
    change St W w (blk b11 116 (ints .i32 32 (λ_=>0))::_) at hs
    replace hs:=MuS.open (hs.pick (MuS W M p m))
    refine RH 0 ha hs hH hC λa ha=>?_
    refine CL 0 ha hs (snap_state_id (hs.store M.sq) hpx hpid) λa w ha hs=>?_
    replace hs:=MuS.fold hs M p m
    refine SA 3 ha hs λa w ha hs=>?_
    refine RN 1 ha hs λa ha=>?_
    exact⟨_,ha.keep [0,1,5,6,11,12],hs.sub⟩
   refine RH 0 ha hs hH hC λa ha=>?_
   refine st_alloc ha rfl hs Ty.t116 rfl λb11 a w ha hs ho=>?_
   clear ho
   replace hC:=hH.at w ((hS _ hs.sub).1)
   change St W w (blk b11 116 (ints .i32 32 (λ_=>0))::_) at hs
   refine RH 0 ha hs hH hC λa ha=>?_
   refine CL 0 ha hs (mu_store (hs.pick (MuS W M p m))) λa w ha hs=>?_
   replace hC:=hH.at w ((hS _ hs.sub).1)
   replace hs:=MuS.open (hs.pick (MuS W M p m))
   refine RH 0 ha hs hH hC λa ha=>?_
   refine CL 0 ha hs (snap_state_id (hs.store M.sq) hpx hpid) λa w ha hs=>?_
   replace hs:=MuS.fold hs M p m
   refine SA 3 ha hs λa w ha hs=>?_
   refine RN 1 ha hs λa ha=>?_
   exact⟨_,ha.keep [0,1,5,6,11,12],hs.sub⟩
  clear ha;(try clear hs)
  rintro a w ⟨b11,ha,hs⟩
  refine DWC 1 (λw0 w'=>Rd w' b11 0 (ints .i32 32 px.g)∧Rd w' B.pb 0 (rgC p B m.s.g)∧Rd w' bl (ol+i*5) (brC x ax cx)) [7,11,15,16,21,26,27,28] [0,1,2,4,5,6,8,9,10,12,13,14,17,18,19,20,22,23,24,25,3003,3007,3011,3015,3021,3026,3027,1016,1028,29,30] ha hs λa w ha hs hH=>?_
  have hC:=hH.at w ⟨hs.rdAll (b:=b11),hs.rdAll (b:=B.pb),(hS _ hs.sub).1⟩
  refine RH 3 ha hs hH hC λa ha=>?_
  replace ha:=ha.isF 143
  refine RH 17 ha hs hH hC λa ha=>?_
  refine QH ha (λw hc=>ex_loadN ha Tryz.underlying116 rfl Ty.t116 (hc.1)) hC λa ha=>?_
  refine QH ha (λw hc=>ex_loadN ha Tryz.underlying34 rfl Ty.t34 (rgC_pr hc.2.1)) hC λa ha=>?_
  refine QH ha (λw hc=>ex_loadN ha Tryz.underlying63 rfl Ty.t63 (rgC_st hc.2.1)) hC λa ha=>?_
  refine QH ha (λw hc=>ld1 ha (hc.2.1 0 _ rfl)) hC λa ha=>?_
  refine QH ha (λw hc=>ld1 ha (hc.2.2 2 _ rfl)) hC λa ha=>?_
  refine QH ha (λw hc=>ld1 ha (hc.2.2 3 _ rfl)) hC λa ha=>?_
  refine RH 1 ha hs hH hC λa ha=>?_
  rw[cutAd_zero,Nat.sub_zero,Nat.sub_zero]at ha
  refine CL 0 ha hs (ref_frontA ((hs.pick (blk B.core.cb 83 (rcC m.s.k B.core A))).pick (RLn B.core.lb B.core.lo B.core.cL m.s.k.ls)) hw.wc) λa w ha hs=>?_
  replace hC:=hH.at w ⟨hs.rdAll (b:=b11),hs.rdAll (b:=B.pb),(hS _ hs.sub).1⟩
  refine RH 0 ha hs hH hC λa ha=>?_
  refine CL 0 ha hs (refFold_len (p:=p) (P:=x.press.take x.done) (zs:=zs.take x.done) (fr:=frontK m.s.k) (hs.pick (RoP W p B.adO B.cO)) (by rw[List.length_take];omega) hpr hsz (hw.gok hpr) ⟨by rw[List.length_take];omega,λb hb=>hxo.1.2 b (List.mem_of_mem_take hb)⟩ (by rw[List.map_take,hz]) (by omega) (λw' h=>(St.rdX (h.sub (M:=Sl 22 1 ax x.press.length cx (zs.map bbv)::All bbo zs::[]))).takeN x.done)) λa w ha ⟨_,hs⟩=>?_
  replace hC:=hH.at w ⟨hs.rdAll (b:=b11),hs.rdAll (b:=B.pb),(hS _ hs.sub).1⟩
  refine RH 0 ha hs hH hC λa ha=>?_
  refine QP ha (λw=>ex_neqA ha Tryz.underlying63 Tryz.underlying21 Ty.t21 (by kernel_rfl) Tryz.eqGuardType63) λa ha=>?_
  rw[hgx,sameN_self,Bool.not_true]at ha
  refine RH 1 ha hs hH hC λa ha=>?_
  replace ha:=ha.isF 171
  refine RN 4 ha hs λa ha=>?_
  exact⟨m.T.l.length-(i+1),by omega,i+1,⟨rfl,by omega⟩,ha.keep [0,1,5,6],(St.brIn (n:=x.press.length) (L':=Sl 45 5 (some ⟨bl,ol,none⟩) m.T.l.length cl (rows brc xs)::MuS W M p m::blk B.pb 65 (rgC p B m.s.g)::RoP W p B.adO B.cO::blk B.core.cb 83 (rcC m.s.k B.core A)::RLn B.core.lb B.core.lo B.core.cL m.s.k.ls::blk B.core.hb 3 (heC m.s.k.ps)::blk B.core.ab 3 (haC m.s.k.ps)::blk B.core.wb 244 (rows wdC m.s.k.ps)::blk B.core.xb 4 (apC m.s.k.ps)::Sl 68 1 A.adM m.s.k.mr.length A.cM (mrC m.s.k.mr)::Sl 223 3 A.adE m.s.k.ev.length A.cE (rows rawC m.s.k.ev)::L) (hs.sub (M:=Sl 22 1 ax x.press.length cx (zs.map bbv)::All bbo zs::All bro (xs.eraseIdx i)::Sl 45 5 (some ⟨bl,ol,none⟩) m.T.l.length cl (rows brc xs)::MuS W M p m::blk B.pb 65 (rgC p B m.s.g)::RoP W p B.adO B.cO::blk B.core.cb 83 (rcC m.s.k B.core A)::RLn B.core.lb B.core.lo B.core.cL m.s.k.ls::blk B.core.hb 3 (heC m.s.k.ps)::blk B.core.ab 3 (haC m.s.k.ps)::blk B.core.wb 244 (rows wdC m.s.k.ps)::blk B.core.xb 4 (apC m.s.k.ps)::Sl 68 1 A.adM m.s.k.mr.length A.cM (mrC m.s.k.mr)::Sl 223 3 A.adE m.s.k.ev.length A.cE (rows rawC m.s.k.ev)::L)) hx hz rfl).sub⟩
 refine RT 2 ha hs ?_
 refine⟨rfl,?_⟩
 exact (RefG.fold (RefS.fold hs B.core m.s.k A) B p m.s).sub
end
section
variable {W w:World}{L:List SP}{i:Nat}{M:MuB}{B:RgB}{p:Pr}{s:Pl}{cf:Cf}
theorem branchesJ (hs:St W w (MuJ W M p cf i s::RefG W B p s::L))(hpr:prOk p)(hsz:p.title.size≤1000000000) :
   Calls Tryz.prog 23 #[pt M.mb,pt B.pb] w λe w'=>e=.returned (.bool true)∧St W w' (MuJ W M p cf i s::RefG W B p s::L):=by
 replace hs:=MuJ.open hs
 obtain⟨m,⟨rfl,hI,hc⟩,hs⟩:=hs
 exact (branches_spec hs hI hpr hsz).mono λe w' ⟨h1,h2⟩=>⟨h1,MuJ.close h2 hI (Nat.le_refl _) rfl hc⟩
end
end
section
open Go.RowKit Go.ChangeShapes Go.WideShapes Go.ChangeAt
set_option linter.constructorNameAsVariable false
set_option maxRecDepth 100000
structure OpX where
 kd:Int
 aB:Option Addr
 n:Nat
 cB:Nat
 bs:List UInt8
 pk:Pk
 aK:Option Addr
 cK:Nat
 b:Bool
 z:Int
def OpX.cells (o:OpX):List Value:=opL o.kd o.aB o.n o.cB o.pk o.aK o.cK o.b o.z
def OpX.ok (W:World)(o:OpX):Prop:=RdB W o.aB o.n o.bs∧o.n≤o.cB∧o.pk.sum<4294967296∧RdB W o.aK o.pk.press.length o.pk.press∧o.pk.press.length≤o.cK
def ArgOps (W:World)(ad:Option Addr)(len:Nat):Prop :=
 len≤9223372036854775807∧(len=0∨∃ b off,ad=some ⟨b,off,none⟩∧b<W.heap.size∧∀ i,i<len→∃ o:OpX,Rd W b (off+i*13) o.cells∧o.ok W)
theorem bytesOf {H:Type}{enc:TypeId×Value→H}{W:World}{n:Nat}{c:Value}{y:DataW H×List MemPlace}(h:DataW.trod enc Tryz.prog W 0 (λ_=>true) true n 22 [c]=some y) :
   ∃ (ad:Option Addr) (cap:Nat) (bs:List UInt8),c=.slice ad bs.length cap∧RdB W ad bs.length bs∧bs.length≤cap:=by
 obtain⟨ad,l,cap,rfl,z,hz⟩:∃ (al:Option Addr) (l c':Nat),c=.slice al l c'∧∃ zs,ArgInts .u8 W al l c' zs:=by
   rcases open_ints Tryz.underlying22 Tryz.underlying5 (by kernel_rfl) h with ⟨hcs,_⟩ | ⟨x,l,c,zs,hcs,_,hl,hm,hz,_,hcell,hwz⟩
   · simp at hcs
     exact⟨none,0,0,hcs,[],.inl ⟨rfl,rfl,rfl,rfl⟩⟩
   · simp at hcs
     exact⟨_,l,c,hcs,zs,.inr ⟨_,rfl,hl,hm,by simpa using hz,hcell,hwz⟩⟩
 obtain⟨bs,h1,h2⟩:=hz.bytesB
 have h3:=capLe hz
 subst h1
 exact⟨ad,cap,bs,rfl,h2,h3⟩
theorem u32of {x:Int}(h:(Lit.int .u32 x).wf=true):x=((x.toNat:Nat):Int)∧x.toNat<4294967296:=by
 have hr:=(Lit.wf_int_iff .u32 x).1 h
 have h1:IntKind.u32.min=0:=by decide
 have h2:IntKind.u32.max=4294967295:=by decide
 rw[h1,h2]at hr
 omega
theorem pkOf {H:Type}{enc:TypeId×Value→H}{W:World}{m:Nat}{cs:List Value}{y:DataW H×List MemPlace}(h:DataW.trod enc Tryz.prog W 0 (λ_=>true) true m 70 cs=some y) :
   ∃ (pk:Pk) (aK:Option Addr) (cK:Nat),cs=pkC pk aK cK∧pk.sum<4294967296∧RdB W aK pk.press.length pk.press∧pk.press.length≤cK:=by
 obtain⟨xs,n,_,_,hcl,hlen,hf⟩:=DataW.trod_struct Tryz.underlying70 h
 rw[show Tryz.prog.cellsOf 70=9 from by kernel_rfl]at hcl
 match cs,hcl,xs,hlen with
 | [c0,c1,c2,c3,c4,c5,c6,c7,c8],_,[y0,y1,y2,y3,y4,y5,y6,y7,y8],_ =>
   have e0:DataW.trod enc Tryz.prog W 0 (λ_=>true) true n 3 [c0]=some y0:=hf 0 _ rfl
   have e1:DataW.trod enc Tryz.prog W 0 (λ_=>true) true n 3 [c1]=some y1:=hf 1 _ rfl
   have e2:DataW.trod enc Tryz.prog W 0 (λ_=>true) true n 3 [c2]=some y2:=hf 2 _ rfl
   have e3:DataW.trod enc Tryz.prog W 0 (λ_=>true) true n 2 [c3]=some y3:=hf 3 _ rfl
   have e4:DataW.trod enc Tryz.prog W 0 (λ_=>true) true n 3 [c4]=some y4:=hf 4 _ rfl
   have e5:DataW.trod enc Tryz.prog W 0 (λ_=>true) true n 22 [c5]=some y5:=hf 5 _ rfl
   have e6:DataW.trod enc Tryz.prog W 0 (λ_=>true) true n 3 [c6]=some y6:=hf 6 _ rfl
   have e7:DataW.trod enc Tryz.prog W 0 (λ_=>true) true n 3 [c7]=some y7:=hf 7 _ rfl
   have e8:DataW.trod enc Tryz.prog W 0 (λ_=>true) true n 68 [c8]=some y8:=hf 8 _ rfl
   obtain⟨z0,h0,_,_⟩:=DataW.trod_int Tryz.underlying3 e0
   obtain⟨z1,h1,_,_⟩:=DataW.trod_int Tryz.underlying3 e1
   obtain⟨z2,h2,_,_⟩:=DataW.trod_int Tryz.underlying3 e2
   obtain⟨z3,h3,_,_⟩:=DataW.trod_int Tryz.underlying2 e3
   obtain⟨z4,h4,_,_⟩:=DataW.trod_int Tryz.underlying3 e4
   obtain⟨ad,cap,bs,h5,h5r,h5c⟩:=bytesOf e5
   obtain⟨z6,h6,_,_⟩:=DataW.trod_int Tryz.underlying3 e6
   obtain⟨z7,h7,_,_⟩:=DataW.trod_int Tryz.underlying3 e7
   obtain⟨z8,h8,_,w8⟩:=DataW.trod_int Tryz.underlying68 e8
   simp at h0 h1 h2 h3 h4 h6 h7 h8
   subst h0 h1 h2 h3 h4 h5 h6 h7 h8
   obtain⟨u1,u2⟩:=u32of w8
   refine⟨⟨z0,z1,z2,z3,z4,z6,z7,z8.toNat,bs⟩,ad,cap,?_,u2,h5r,h5c⟩
   simp only[pkC]
   rw[← u1]
theorem argOps_of {H:Type}{enc:TypeId×Value→H}{W:World}{len cap:Nat}{ad:Option Addr}{d:DataW H}{p:List MemPlace}
   (h:DataW.Trod enc Tryz.prog W 0 (λ_=>true) true 93 (.slice ad len cap) d p):ArgOps W ad len:=by
 obtain⟨h1,h2⟩:=argRows (sz:=13) Tryz.underlying93 (by kernel_rfl) (by decide) h
 refine⟨h1,h2.imp id ?_⟩
 rintro⟨b,off,h3,h4,h5⟩
 refine⟨b,off,h3,h4,λi hi=>?_⟩
 obtain⟨cs,m,x,g1,g2,g3⟩:=h5 i hi
 obtain⟨xs,n,_,rfl,_,hlen,hf⟩:=DataW.trod_struct Tryz.underlying98 g3
 match cs,g1,xs,hlen with
 | [c0,c1,c2,c3,c4,c5,c6,c7,c8,c9,c10,c11,c12],_,[y0,y1,y2,y3,y4],_ =>
   have e0:DataW.trod enc Tryz.prog W 0 (λ_=>true) true n 3 [c0]=some y0:=hf 0 _ rfl
   have e1:DataW.trod enc Tryz.prog W 0 (λ_=>true) true n 22 [c1]=some y1:=hf 1 _ rfl
   have e2:DataW.trod enc Tryz.prog W 0 (λ_=>true) true n 70 [c2,c3,c4,c5,c6,c7,c8,c9,c10]=some y2:=hf 2 _ rfl
   have e3:DataW.trod enc Tryz.prog W 0 (λ_=>true) true n 4 [c11]=some y3:=hf 3 _ rfl
   have e4:DataW.trod enc Tryz.prog W 0 (λ_=>true) true n 68 [c12]=some y4:=hf 4 _ rfl
   obtain⟨z0,k0,_,_⟩:=DataW.trod_int Tryz.underlying3 e0
   obtain⟨aB,cB,bs,k1,k1r,k1c⟩:=bytesOf e1
   obtain⟨pk,aK,cK,k2,k2s,k2r,k2c⟩:=pkOf e2
   obtain⟨bb,k3,_⟩:=DataW.trod_bool Tryz.underlying4 e3
   obtain⟨z4,k4,_,_⟩:=DataW.trod_int Tryz.underlying68 e4
   simp at k0 k3 k4
   subst k0 k1 k3 k4
   refine⟨⟨z0,aB,bs.length,cB,bs,pk,aK,cK,bb,z4⟩,?_,k1r,k1c,k2s,k2r,k2c⟩
   rw[show OpX.cells ⟨z0,aB,bs.length,cB,bs,pk,aK,cK,bb,z4⟩=[.int .i64 z0,.slice aB bs.length cB]++pkC pk aK cK++[.bool bb,.int .u32 z4] from rfl,← k2]
   exact g2
end
section
theorem St.oldRdM {W w:World}{L:List SP}(hs:St W w L){b off:Nat}{vs:List Value}(hb:b<W.heap.size)(h:Rd W b off vs):Rd w b off vs :=
 λj v hj=>(hs.old hb).trans (h j v hj)
section
variable {W w:World}{L:List SP}{i:Nat}{M:MuB}{p:Pr}{s:Pl}{cf:Cf}
theorem workersJ (hs:St W w (MuJ W M p cf i s::L)) :
   Calls Tryz.prog 42 #[pt M.mb] w λe w'=>e=.returned (.int .i64 cf.workers)∧St W w' (MuJ W M p cf i s::L):=by
 replace hs:=MuJ.open hs
 obtain⟨m,⟨rfl,hI,hc⟩,hs⟩:=hs
 refine (mu_workers hs).mono λe w' ⟨h1,h2⟩=>⟨?_,MuJ.close h2 hI (Nat.le_refl _) rfl hc⟩
 rw[h1,← hI.workers,← hc];rfl
end
set_option maxHeartbeats 8000000 in
theorem multiAll_walk (cf0:Cf)(pr1:Pr)(ado1:Option Addr)(co1:Nat)(a2:Option Addr)(len2 cap2:Nat)(z2:List Int)(a3:Option Addr)(len3 cap3:Nat)(a4:Option Addr)(len4 cap4:Nat)(z4:List Int)(W:World)(w1:ArgProg W pr1 ado1 co1)(w2:ArgInts .u8 W a2 len2 cap2 z2)(w3:ArgOps W a3 len3)(w4:ArgInts .i64 W a4 len4 cap4 z4) :
   Calls Tryz.prog 10 #[.agg (cfC cf0).toArray,.agg (prV pr1 ado1 co1).toArray,.slice a2 len2 cap2,.slice a3 len3 cap3,.slice a4 len4 cap4] W λe w'=>e=.returned (.bool true)∧Below W.heap.size W w':=by
 have hs:=St.start W
 obtain⟨T0,hT0,hrT0⟩:=w2.bytesB
 have hcap:=capLe w2
 obtain⟨hl3,hops⟩:=w3
 obtain⟨xs,hxl,hxw,hxr⟩:=w4.vals
 obtain⟨hz1,hz2⟩:=cutP_ok (K:=64) (by decide) pr1
 by_cases hma:mayAll cf0 (cutP 64 pr1) (T0.take 30)
 ·
   refine EN Tryz.func10 Tryz.ntmps10 rfl rfl λa ha=>?_
   refine BX 1 ha hs λb5 a w ha hs=>?_
   change St W w (blk b5 27 (cfC cf0)::_) at hs
   refine BX 0 ha hs λb6 a w ha hs=>?_
   change St W w (blk b6 34 (prV pr1 ado1 co1)::_) at hs
   refine CL 2 ha hs (begun26 hs) λa w ha hs=>?_
   refine RN 5 ha hs λa ha=>?_
   replace ha:=ha.isF 20
   refine CL 3 ha hs (cut5_spec (K:=64) (w1.ro hs)) λa w ha hs=>?_
   refine CL2 1 ha hs (shortN (K:=30) hs hrT0 hcap) λaT cT a w ha ⟨hrT,hcT,hs⟩=>?_
   refine SA 0 ha hs λa w ha hs=>?_
   refine RN 1 ha hs λa ha=>?_
   have hTl:(T0.take 30).length≤30:=by rw[List.length_take];omega
   generalize T0.take 30=T at ha hrT hcT hTl hma
   generalize cutP 64 pr1=p at hs ha hz1 hz2 hma
   refine CL1 4 ha hs (mu_newY hma (hs.pick (RoP W p ado1 co1)) rfl hz1 hz2 (by omega) (λw' h=>hrT.old h)) λM a w ha ⟨hgs,hs⟩=>?_
   have hwf0:=WF'.new (p:=p) hma.1
   have hnow:=newP_now0 (p:=p) hma.1
   have hgm:mayGs M.B.gs:=by rw[hgs];exact hma.2.2
   have hpr:prOk p:=hma.2.1
   refine CL1 9 ha hs (refMayAll (cf:=cf0) (tb:=T) (hs.pick (RoP W p ado1 co1)) hz1 hz2 rfl) λrr a w ha ⟨hrr,hs⟩=>?_
   rw[hrr.2 hma]at ha
   refine RN 7 ha hs λa ha=>?_
   replace ha:=ha.isF 39
   refine RN 5 ha hs λa ha=>?_
   replace ha:=ha.isF 41
   refine CL1 5 ha hs (refP_newZ hma.1 (hs.pick (RoP W p ado1 co1)) (tb:=T) rfl hpr hz1) λC a w ha ⟨⟨hcg,hcT2⟩,hs⟩=>?_
   have hbg:C.gs=M.B.gs:=by rw[hcg,hgs]
   have hgc:mayGs C.gs:=by rw[hbg];exact hgm
   have hTr:RdB W C.adT C.gs.table.length C.gs.table:=by rw[hcg,hcT2];exact hrT
   generalize newP p cf0=s0 at hs hwf0 hnow
   refine RN 4 ha hs λa ha=>?_
   refine wp_loop_ghost (λμ a w=>∃ (i:Nat) (s:Pl),(μ=40-i∧i≤40∧WF' p s∧s.k.now≤i)∧Fr a 133 [(3,.slice a3 len3 cap3),(4,.slice a4 len4 cap4),(5,pt b5),(12,pt M.mb),(15,pt C.pb),(16,.int .i64 i)]∧St W w (MuJ W M p cf0 (5*i) s::RefG W C p s::blk b5 27 (cfC cf0)::[])) (40) (⟨0,s0,⟨rfl,by omega,hwf0,by omega⟩,ha.keep [3,4,5,12,15,16],hs.sub⟩) ?_
   clear ha hs
   rintro μ a w ⟨i,s,⟨rfl,hi,hwf,hnw⟩,ha,hs⟩
   refine BY 7 ha hs (λhg4 a ha=>?_) λhg4 a ha=>?_
   ·
    refine IF 3 ha hs (λhc3 a ha=>?_) λhc3 a ha=>?_
    ·
     obtain⟨bo,oo,rfl,hbo,hro⟩:=hops.resolve_left (by omega)
     obtain⟨o,ho1,ho2,ho3,ho4,ho5,ho6⟩:=hro i (by omega)
     have hrd:Rd w bo (oo+i*13) o.cells:=hs.oldRdM hbo ho1
     rw[OpX.cells]at hrd
     refine RN 9 ha hs λa ha=>?_
     refine SS ha (ex_loadN ha Tryz.underlying98 rfl Ty.t98 (hrd)) λa ha=>?_
     refine CL 0 ha hs (do_spec (i:=5*i) (mu_play (M:=M) (cf:=cf0) hpr hz1) (by omega) hs hwf hpr hz1 (by omega) ho2 ho3 ho4 ho5 ho6) λa w ha ⟨s',hwf',hnw',hs⟩=>?_
     refine RN 2 ha hs λa ha=>?_
     replace ha:=ha.isF 71
     refine CL 3 ha hs (shows_spec (i:=5*i+1) (mu_play (M:=M) (cf:=cf0) hpr hz1) (by omega) hs hwf' hpr hz1 hgc hbg hTr) λa w ha hs=>?_
     refine RN 3 ha hs λa ha=>?_
     replace ha:=ha.isF 78
     refine CL 2 ha hs (boundsJ hs) λa w ha hs=>?_
     refine RN 2 ha hs λa ha=>?_
     replace ha:=ha.isF 83
     refine RN 1 ha hs λa ha=>?_
     refine wp_seq_cut (M:=λa w=>Fr a 133 [(3,.slice (some ⟨bo,oo,none⟩) len3 cap3),(4,.slice a4 len4 cap4),(5,pt b5),(12,pt M.mb),(15,pt C.pb),(16,.int .i64 i)]∧St W w (MuJ W M p cf0 (5*i+1) s'::RefG W C p s'::blk b5 27 (cfC cf0)::[])) ?_ ?_
     ·
      refine RN 1 ha hs λa ha=>?_
      obtain⟨A,hs⟩:=RefS.open ((RefG.open (hs.pick (RefG W C p s'))).pick (RefS C.core s'.k))
      refine RN 7 ha hs λa ha=>?_
      replace hs:=(RefG.fold (RefS.fold hs C.core s'.k A) C p s').sub (M:=MuJ W M p cf0 (5*i+1) s'::RefG W C p s'::blk b5 27 (cfC cf0)::[])
      refine BY 2 ha hs (λhg8 a ha=>?_) λhg8 a ha=>?_
      ·
       refine CL 2 ha hs (branchesJ hs hpr hz1) λa w ha hs=>?_
       refine RN 2 ha hs λa ha=>?_
       replace ha:=ha.isF 97
       refine RN 1 ha hs λa ha=>?_
       exact⟨ha.keep [3,4,5,12,15,16],hs⟩
      refine RN 6 ha hs λa ha=>?_
      exact⟨ha.keep [3,4,5,12,15,16],hs⟩
     clear ha;(try clear hs)
     rintro a w ⟨ha,hs⟩
     refine RN 3 ha hs λa ha=>?_
     refine wp_loop_ghost (λμ a w=>∃ (v:Nat),(μ=4-v∧v≤4)∧Fr a 133 [(3,.slice (some ⟨bo,oo,none⟩) len3 cap3),(4,.slice a4 len4 cap4),(5,pt b5),(12,pt M.mb),(15,pt C.pb),(16,.int .i64 i),(17,.int .i64 v)]∧St W w (MuJ W M p cf0 (5*i+1+v) s'::RefG W C p s'::blk b5 27 (cfC cf0)::[])) (4) (⟨0,⟨rfl,by omega⟩,ha.keep [3,4,5,12,15,16,17],hs.sub⟩) ?_
     clear ha hs
     rintro μ a w ⟨v,⟨rfl,hv⟩,ha,hs⟩
     refine BY 5 ha hs (λhg2 a ha=>?_) λhg2 a ha=>?_
     ·
      refine IF 7 ha hs (λhc6 a ha=>?_) λhc6 a ha=>?_
      ·
       have hi2:i+v<xs.length:=by omega
       obtain⟨bf,of,rfl,_,hrf⟩:=(hxr _ _ hs).resolve_left (by omega)
       have hcf:=hrf (i+v) (.int .i64 xs[i+v]) (by rw[List.getElem?_map,List.getElem?_eq_getElem hi2];rfl)
       generalize xs[i+v]=y at hcf
       refine RN 7 ha hs λa ha=>?_
       rw[show (i:Int)+(v:Int)=((i+v:Nat):Int) from by omega]at ha
       refine RN 1 ha hs λa ha=>?_
       refine SS ha (ld1 ha (hcf)) λa ha=>?_
       refine SX 0 ha hs (by decide) λa ha=>?_
       refine CL1 0 ha hs (mu_workJ hs hpr hz1 (by omega)) λz a w ha ⟨_,hs⟩=>?_
       refine CL 3 ha hs (boundsJ hs) λa w ha hs=>?_
       refine RN 1 ha hs λa ha=>?_
       replace ha:=ha.isF 122
       refine RN 4 ha hs λa ha=>?_
       exact⟨4-(v+1),by omega,v+1,⟨rfl,by omega⟩,ha.keep [3,4,5,12,15,16,17],hs.sub⟩
      refine CL 4 ha hs (shows_spec (i:=5*i+5) (mu_play (M:=M) (cf:=cf0) hpr hz1) (by omega) (MuJ.more (j:=5*i+5) hs (by omega)) hwf' hpr hz1 hgc hbg hTr) λa w ha hs=>?_
      refine RN 1 ha hs λa ha=>?_
      replace ha:=ha.isF 127
      refine RN 4 ha hs λa ha=>?_
      exact⟨40-(i+1),by omega,i+1,s',⟨rfl,by omega,hwf',by omega⟩,ha.keep [3,4,5,12,15,16],by rw[show 5*(i+1)=5*i+5 from by omega];exact hs⟩
     refine CL 12 ha hs (shows_spec (i:=5*i+5) (mu_play (M:=M) (cf:=cf0) hpr hz1) (by omega) (MuJ.more (j:=5*i+5) hs (by omega)) hwf' hpr hz1 hgc hbg hTr) λa w ha hs=>?_
     refine RN 1 ha hs λa ha=>?_
     replace ha:=ha.isF 127
     refine RN 4 ha hs λa ha=>?_
     exact⟨40-(i+1),by omega,i+1,s',⟨rfl,by omega,hwf',by omega⟩,ha.keep [3,4,5,12,15,16],by rw[show 5*(i+1)=5*i+5 from by omega];exact hs⟩
    refine DWC 1 (λw0 w'=>Rd w' b5 0 (cfC cf0)) [1] [0,2,3003,1001,4,5] ha hs λa w ha hs hH=>?_
    have hC:=hH.at w (hs.rdAll (b:=b5))
    refine RH 2 ha hs hH hC λa ha=>?_
    refine QH ha (λw hc=>ld1 ha (hc 8 _ rfl)) hC λa ha=>?_
    refine RH 0 ha hs hH hC λa ha=>?_
    refine CL 0 ha hs (workersJ hs) λa w ha hs=>?_
    replace hC:=hH.at w (hs.rdAll (b:=b5))
    refine RH 2 ha hs hH hC λa ha=>?_
    refine RT 0 ha hs ?_
    exact⟨by rw[decide_eq_true rfl],hs.below⟩
   refine DWC 5 (λw0 w'=>Rd w' b5 0 (cfC cf0)) [1] [0,2,3003,1001,4,5] ha hs λa w ha hs hH=>?_
   have hC:=hH.at w (hs.rdAll (b:=b5))
   refine RH 2 ha hs hH hC λa ha=>?_
   refine QH ha (λw hc=>ld1 ha (hc 8 _ rfl)) hC λa ha=>?_
   refine RH 0 ha hs hH hC λa ha=>?_
   refine CL 0 ha hs (workersJ hs) λa w ha hs=>?_
   replace hC:=hH.at w (hs.rdAll (b:=b5))
   refine RH 2 ha hs hH hC λa ha=>?_
   refine RT 0 ha hs ?_
   exact⟨by rw[decide_eq_true rfl],hs.below⟩
 ·
   refine EN Tryz.func10 Tryz.ntmps10 rfl rfl λa ha=>?_
   refine BX 1 ha hs λb5 a w ha hs=>?_
   change St W w (blk b5 27 (cfC cf0)::_) at hs
   refine BX 0 ha hs λb6 a w ha hs=>?_
   change St W w (blk b6 34 (prV pr1 ado1 co1)::_) at hs
   refine CL 2 ha hs (begun26 hs) λa w ha hs=>?_
   refine RN 5 ha hs λa ha=>?_
   replace ha:=ha.isF 20
   refine CL 3 ha hs (cut5_spec (K:=64) (w1.ro hs)) λa w ha hs=>?_
   refine CL2 1 ha hs (shortN (K:=30) hs hrT0 hcap) λaT cT a w ha ⟨hrT,hcT,hs⟩=>?_
   refine SA 0 ha hs λa w ha hs=>?_
   refine RN 1 ha hs λa ha=>?_
   have hTl:(T0.take 30).length≤30:=by rw[List.length_take];omega
   generalize T0.take 30=T at ha hrT hcT hTl hma
   generalize cutP 64 pr1=p at hs ha hz1 hz2 hma
   refine CL 4 ha hs (mu_newN hma (hs.pick (RoP W p ado1 co1)) rfl hz1 hz2 (by omega) (λw' h=>hrT.old h)) λa w ha hs=>?_
   refine CL1 9 ha hs (refMayAll (cf:=cf0) (tb:=T) (hs.pick (RoP W p ado1 co1)) hz1 hz2 rfl) λrr a w ha ⟨hrr,hs⟩=>?_
   rw[show rr=false from Bool.eq_false_iff.2 λh=>hma (hrr.1 h)]at ha
   refine RN 7 ha hs λa ha=>?_
   replace ha:=ha.isF 39
   refine RN 5 ha hs λa ha=>?_
   replace ha:=ha.isT 41
   refine RN 5 ha hs λa ha=>?_
   replace ha:=ha.isT 44
   refine RT 4 ha hs ?_
   exact⟨rfl,hs.below⟩
end
section
set_option maxRecDepth 100000
theorem and2 {x y:Bool}(h:x=true)(k:y=true):(x&&y)=true:=by rw[h,k];rfl
theorem joined_of {P:Program}{f:FuncId}{fn:Func}{s:ChangeSpec}{c:OpenClaim}(k1:c.wf (OpenSpec.ofChange s)=true)(k2:laidOutB P=true)(k3:mapsRowed P=true)(k4:fn.params.all (P.readableRec ·)=true)(k5:namedTie P c.named s.vars=true)
   (k6:(c.stops==[])=true) (k7:(P.stops==[])=true) (k8:(c.knobs==[])=true) (k9:(P.stopKnobs==[])=true) (k10:(c.inPlace==P.inPlace f)=true) (k11:(c.unfollowed==P.unfollowed f)=true) (k12:(c.recurses==P.recurses f)=true) (k13:(c.named==P.varsNamed f)=true)
   (k14:(c.maps==(fn.params.toList++s.plain.varTypes P).any (P.mapsRec ·))=true) (k15:(c.ifaces==(fn.params.toList++s.plain.varTypes P).any (P.ifacesRec ·))=true) (k16:(c.mapsOut==P.mapsAmong fn.resultTypes.toList)=true)
   (k17:(c.loops==(fn.params.toList++s.plain.varTypes P).any (P.loopsFrom ·))=true) (k18:(c.wideKeys==(fn.params.toList++s.plain.varTypes P++fn.resultTypes.toList).any (P.wideKeysFrom ·))=true) (k19:s.vars.all (P.varReadable ·)=true) (k20:fn.resultTypes.all (λt=>P.readableRec t&&decide (t<P.types.size))=true)
   (k21:(c.ifacesOut==fn.resultTypes.toList.any (P.ifacesRec ·))=true) (k22:(c.loopsOut==fn.resultTypes.toList.any (P.loopsFrom ·))=true) (k23:(c.plainKeys==P.plainKeys)=true) (k24:c.shortTexts.isNone=true) (k25:P.stopsHeard=true) (k26:P.mayEnter=true) (k27:(c.lifted==P.liftsFinal)=true) (k28:(P.make==some c.make)=true)
   (k29:(c.kinds==(if c.domain.isEmpty then [] else fn.params.toList.map λt=>match P.underlying t with | some (.int k)=>some k | _=>none))=true) (k30:(c.pinned==c.pinnedBy)=true) (k31:(c.veiled==(fn.params.toList++s.plain.varTypes P++fn.resultTypes.toList).any (P.veiledRec ·))=true) (k32:c.veiledFits P fn.params.toList (fn.params.toList++s.plain.varTypes P++fn.resultTypes.toList)=true):joinedFacts P f fn s c=true:=by
 unfold joinedFacts
 exact and2 (and2 (and2 (and2 (and2 (and2 (and2 (and2 (and2 (and2 (and2 (and2 (and2 (and2 (and2 (and2 (and2 (and2 (and2 (and2 (and2 (and2 (and2 (and2 (and2 (and2 (and2 (and2 (and2 (and2 (and2 k1 k2) k3) k4) k5) k6) k7) k8) k9) k10) k11) k12) k13) k14) k15) k16) k17) k18) k19) k20) k21) k22) k23) k24) k25) k26) k27) k28) k29) k30) k31) k32
theorem fLaid:laidOutB Tryz.prog=true:=by kernel_rfl
theorem fMaps:mapsRowed Tryz.prog=true:=by kernel_rfl
theorem fHeard:Tryz.prog.stopsHeard=true:=by kernel_rfl
theorem fEnter:Tryz.prog.mayEnter=true:=by kernel_rfl
theorem fKeys (c:OpenClaim)(h:c.plainKeys=Rows.multiNoneRow.plainKeys):(c.plainKeys==Tryz.prog.plainKeys)=true:=by
 rw[h];kernel_rfl
theorem fLift (c:OpenClaim)(h:c.lifted=Rows.multiNoneRow.lifted):(c.lifted==Tryz.prog.liftsFinal)=true:=by
 rw[h];kernel_rfl
theorem fMake (c:OpenClaim)(h:c.make=Rows.multiNoneRow.make):(Tryz.prog.make==some c.make)=true:=by
 rw[h];kernel_rfl
end
end Go.Proofs.YtdilfdkendjjhaaGreat
