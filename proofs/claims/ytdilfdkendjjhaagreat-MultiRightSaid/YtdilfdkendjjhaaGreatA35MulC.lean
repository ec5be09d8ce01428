/- quintainlaw26.branches. -/
import Derived.Test.YtdilfdkendjjhaaGreatA34MulS
import Derived.Test.YtdilfdkendjjhaaGreatA31MulV
import Derived.Test.YtdilfdkendjjhaaGreatA33RefG
import Derived.Test.YtdilfdkendjjhaaGreatRows
import Derived.KernelRfl
import Derived.JoinedOf
namespace Go.Proofs.YtdilfdkendjjhaaGreat
open Go.RowKit
set_option linter.unusedVariables false
set_option linter.unusedSimpArgs false
set_option maxRecDepth 10000
set_option synthInstance.maxSize 4000
set_option synthInstance.maxHeartbeats 400000
section
theorem knP_atB {ls:List (List UInt8)}{f i q:Nat}{P:List (List UInt8)}(h:knP ls f P=true)(hi:i<P.length)(hq:q<(P.getD i []).length)(h1:f+i<(ls.getD q []).length):(ls.getD q []).getD (f+i) 0=(P.getD i []).getD q 0:=by
 rw[knP,List.all_eq_true]at h
 have h2:=h i (List.mem_range.2 hi)
 rw[knB,List.all_eq_true]at h2
 have h3:=h2 q (List.mem_range.2 hq)
 rw[decide_eq_true h1,Bool.true_and]at h3
 simpa using h3
theorem RdX.takeN {w:World}{ad:Option Addr}{zs:List BBx}(h:RdX w ad zs)(n:Nat):RdX w ad (zs.take n):=by
 refine⟨λh0=>?_,λx hx=>h.2 x (List.mem_of_mem_take hx)⟩
 obtain⟨b,off,e,hr⟩:=h.1 (by rw[List.length_take]at h0;omega)
 refine⟨b,off,e,λj v hj=>hr j v ?_⟩
 rw[List.map_take,List.getElem?_take]at hj
 split at hj
 · exact hj
 · cases hj
theorem RdB.cell {w:World}{ad:Option Addr}{n b o i:Nat}{bs:List UInt8}(h:RdB w ad n bs)(he:ad=some ⟨b,o,none⟩)(hi:i<bs.length):w.cell? ⟨b,o+i,none⟩=some (.int .u8 ((bs.getD i 0).toNat:Nat)):=by
 obtain⟨b',o',h1,h2⟩:=h.get (by have:=h.1;omega)
 rw[he]at h1;cases h1
 exact h2 i _ (bc_atD hi)
section
variable {W w:World}{L L':List SP}{N:Nat}{M:MuB}{B:RgB}{p:Pr}{m:Mu}
set_option maxHeartbeats 4000000 in
theorem branches_spec (hs:St W w (MuS W M p m::RefG W B p m.s::L))(h:MI p M N m)(hpr:prOk p)(hsz:p.title.size≤1000000000) :
   Calls Tryz.prog 23 #[pt M.mb,pt B.pb] w λe w'=>e=.returned (.bool true)∧St W w' (MuS W M p m::RefG W B p m.s::L):=by
 have hw:=h.wf
 have hhd:=hw.wc.headt
 have hft:=hw.wc.frontt
 have hls:=hw.wc.ls
 have hn8:=hw.wc.n
 obtain⟨t,hI⟩:=h.inv
 have hBr:=h.brs
 have hT:=Tree.wt ((MuS.open hs).tree M.tq)
 have hTm:=hT.most
 obtain⟨A,hs⟩:=RefS.open ((RefG.open (hs.pick (RefG W B p m.s))).pick (RefS B.core m.s.k))
 refine EN Tryz.func23 Tryz.ntmps23 rfl rfl λa ha=>?_
 refine CL 4 ha hs (mu_tree (hs.pick (MuS W M p m))) λa w ha hs=>?_
 replace hs:=MuS.open hs
 refine CL2 0 ha hs (tree_all (hs.tree M.tq)) λadl cl a w ha hs=>?_
 refine RN 1 ha hs λa ha=>?_
 obtain⟨xs,hx1,hx2,hs⟩:=OwnBr.open hs
 have hxl:xs.length=m.T.l.length:=by rw[← hx1,List.length_map]
 replace hs:=MuS.fold hs M p m
 refine RN 3 ha hs λa ha=>?_
 refine wp_loop_ghost (λμ a w=>∃ (i:Nat),(μ=m.T.l.length-i∧i≤m.T.l.length)∧Fr a 172 [(0,pt M.mb),(1,pt B.pb),(5,.slice adl m.T.l.length cl),(6,.int .i64 i)]∧St W w (Sl 45 5 adl m.T.l.length cl (rows brc xs)::All bro xs::MuS W M p m::blk B.pb 65 (rgC p B m.s.g)::RoP W p B.adO B.cO::blk B.core.cb 83 (rcC m.s.k B.core A)::RLn B.core.lb B.core.lo B.core.cL m.s.k.ls::blk B.core.hb 3 (heC m.s.k.ps)::blk B.core.ab 3 (haC m.s.k.ps)::blk B.core.wb 244 (rows wdC m.s.k.ps)::blk B.core.xb 4 (apC m.s.k.ps)::Sl 68 1 A.adM m.s.k.mr.length A.cM (mrC m.s.k.mr)::Sl 223 3 A.adE m.s.k.ev.length A.cE (rows rawC m.s.k.ev)::L)) (m.T.l.length) (⟨0,⟨rfl,by omega⟩,ha.keep [0,1,5,6],hs.sub⟩) ?_
 clear ha hs
 rintro μ a w ⟨i,⟨rfl,hi⟩,ha,hs⟩
 refine IF 6 ha hs (λhc0 a ha=>?_) λhc0 a ha=>?_
 ·
  obtain⟨⟨x,ax,cx⟩,hx⟩:∃ x,xs[i]?=some x:=⟨_,List.getElem?_eq_getElem (by omega)⟩
  have hxT:x∈m.T.l:=by rw[← hx1];exact List.mem_map.2 ⟨_,List.mem_of_getElem? hx,rfl⟩
  obtain⟨i2,px,hpx,hpid⟩:=hI.ofBr hxT
  have hgx:=(hI.brs x hxT).2 px (List.mem_of_getElem? hpx) hpid
  have hfx:=(hI.brs x hxT).1
  obtain⟨hxj,hxk⟩:=hBr x hxT
  have hxo:=hT.ok x hxT
  have hxl6:=hxo.1.1
  obtain⟨bl,ol,rfl,hrl⟩:=hs.slRd adl (by omega)
  clear hrl
  obtain⟨zs,hz,hzc,hs⟩:=St.brOut (hs.pick (All bro xs)) hx
  have hzl:zs.length=x.press.length:=by rw[← hz,List.length_map]
  have hS:∀ w,St W w (Sl 22 1 ax x.press.length cx (zs.map bbv)::All bbo zs::All bro (xs.eraseIdx i)::Sl 45 5 (some ⟨bl,ol,none⟩) m.T.l.length cl (rows brc xs)::MuS W M p m::blk B.pb 65 (rgC p B m.s.g)::RoP W p B.adO B.cO::blk B.core.cb 83 (rcC m.s.k B.core A)::RLn B.core.lb B.core.lo B.core.cL m.s.k.ls::blk B.core.hb 3 (heC m.s.k.ps)::blk B.core.ab 3 (haC m.s.k.ps)::blk B.core.wb 244 (rows wdC m.s.k.ps)::blk B.core.xb 4 (apC m.s.k.ps)::Sl 68 1 A.adM m.s.k.mr.length A.cM (mrC m.s.k.mr)::Sl 223 3 A.adE m.s.k.ev.length A.cE (rows rawC m.s.k.ev)::L)→Rd w bl (ol+i*5) (brC x ax cx)∧RdX w ax zs:=λw h=>⟨row_rd (h.slRdAt bl ol (by omega)) hx,St.rdX (h.sub (M:=Sl 22 1 ax x.press.length cx (zs.map bbv)::All bbo zs::[]))⟩
  replace hs:=hs.sub (M:=Sl 22 1 ax x.press.length cx (zs.map bbv)::All bbo zs::All bro (xs.eraseIdx i)::Sl 45 5 (some ⟨bl,ol,none⟩) m.T.l.length cl (rows brc xs)::MuS W M p m::blk B.pb 65 (rgC p B m.s.g)::RoP W p B.adO B.cO::blk B.core.cb 83 (rcC m.s.k B.core A)::RLn B.core.lb B.core.lo B.core.cL m.s.k.ls::blk B.core.hb 3 (heC m.s.k.ps)::blk B.core.ab 3 (haC m.s.k.ps)::blk B.core.wb 244 (rows wdC m.s.k.ps)::blk B.core.xb 4 (apC m.s.k.ps)::Sl 68 1 A.adM m.s.k.mr.length A.cM (mrC m.s.k.mr)::Sl 223 3 A.adE m.s.k.ev.length A.cE (rows rawC m.s.k.ev)::L)
  refine DWC 3 (λw0 w'=>Rd w' bl (ol+i*5) (brC x ax cx)∧Rd w' B.pb 0 (rgC p B m.s.g)) [8,9,21,22] [0,1,2,3,5,6,7,3004,1008,1009,10,11,12,13,14,15,17,18,19,20,3016,1021,1022,23,24] ha hs λa w ha hs hH=>?_
  have hC:=hH.at w ⟨(hS _ hs).1,hs.rdAll (b:=B.pb)⟩
  refine RH 7 ha hs hH hC λa ha=>?_
  refine QH ha (λw hc=>ld1 ha (hc.1 1 _ rfl)) hC λa ha=>?_
  rw[hfx]at ha
  refine RH 0 ha hs hH hC λa ha=>?_
  refine SS ha (ld1 ha (hC.2 0 _ rfl)) λa ha=>?_
  refine RH 0 ha hs hH hC λa ha=>?_
  refine CL 0 ha hs (ref_frontA ((hs.pick (blk B.core.cb 83 (rcC m.s.k B.core A))).pick (RLn B.core.lb B.core.lo B.core.cL m.s.k.ls)) hw.wc) λa w ha hs=>?_
  replace hC:=hH.at w ⟨(hS _ hs.sub).1,hs.rdAll (b:=B.pb)⟩
  refine RH 2 ha hs hH hC λa ha=>?_
  rw[decide_eq_false (by omega)]at ha
  refine RH 8 ha hs hH hC λa ha=>?_
  refine QH ha (λw hc=>ld1 ha (hc.1 3 _ rfl)) hC λa ha=>?_
  refine RH 0 ha hs hH hC λa ha=>?_
  refine st_set ha (wgT ha rfl (s:=33)) (ld1 ha (hC.1 2 _ rfl)) rfl λa ha=>?_
  refine RH 3 ha hs hH hC λa ha=>?_
  rw[decide_eq_false (by omega)]at ha
  refine RN 4 ha hs λa ha=>?_
  refine wp_loop_ghost (λμ a w=>∃ (k:Nat),(μ=x.press.length-k∧k≤x.press.length)∧Fr a 172 [(0,pt M.mb),(1,pt B.pb),(5,.slice (some ⟨bl,ol,none⟩) m.T.l.length cl),(6,.int .i64 i),(7,.int .i64 k)]∧St W w (Sl 22 1 ax x.press.length cx (zs.map bbv)::All bbo zs::All bro (xs.eraseIdx i)::Sl 45 5 (some ⟨bl,ol,none⟩) m.T.l.length cl (rows brc xs)::MuS W M p m::blk B.pb 65 (rgC p B m.s.g)::RoP W p B.adO B.cO::blk B.core.cb 83 (rcC m.s.k B.core A)::RLn B.core.lb B.core.lo B.core.cL m.s.k.ls::blk B.core.hb 3 (heC m.s.k.ps)::blk B.core.ab 3 (haC m.s.k.ps)::blk B.core.wb 244 (rows wdC m.s.k.ps)::blk B.core.xb 4 (apC m.s.k.ps)::Sl 68 1 A.adM m.s.k.mr.length A.cM (mrC m.s.k.mr)::Sl 223 3 A.adE m.s.k.ev.length A.cE (rows rawC m.s.k.ev)::L)) (x.press.length) (⟨0,⟨rfl,by omega⟩,ha.keep [0,1,5,6,7],hs.sub⟩) ?_
  clear ha hs
  rintro μ a w ⟨k,⟨rfl,hk⟩,ha,hs⟩
  refine RN 7 ha hs λa ha=>?_
  refine SS ha (ld1 ha ((hS _ hs).1 2 _ rfl)) λa ha=>?_
  refine IF 2 ha hs (λhc2 a ha=>?_) λhc2 a ha=>?_
  ·
   have hkl:k<zs.length:=by omega
   obtain⟨bx,ox,z,hade,hzi,hcell,hrz⟩:=(hS _ hs).2.at hkl
   have hzp:x.press.getD k []=z.2.2:=by rw[List.getD_eq_getElem?_getD,← hz,List.getElem?_map,hzi];rfl
   have hzn:z.2.2.length=m.s.k.n:=hxj _ (by rw[← hz];exact List.mem_map.2 ⟨z,List.mem_of_getElem? hzi,rfl⟩)
   refine RN 6 ha hs λa ha=>?_
   refine SS ha (ld1 ha ((hS _ hs).1 2 _ rfl)) λa ha=>?_
   refine RN 1 ha hs λa ha=>?_
   rw[hade]at ha
   refine RN 1 ha hs λa ha=>?_
   refine SS ha (ld1 ha (hcell)) λa ha=>?_
   rw[bbv]at ha
   refine RN 14 ha hs λa ha=>?_
   rw[decide_eq_false (by omega)]at ha
   refine RN 3 ha hs λa ha=>?_
   refine wp_loop_ghost (λμ a w=>∃ (v:Nat),(μ=m.s.k.n-v∧v≤m.s.k.n)∧Fr a 172 [(0,pt M.mb),(1,pt B.pb),(5,.slice (some ⟨bl,ol,none⟩) m.T.l.length cl),(6,.int .i64 i),(7,.int .i64 k),(8,.slice z.1 z.2.2.length z.2.1),(9,.int .i64 v)]∧St W w (Sl 22 1 ax x.press.length cx (zs.map bbv)::All bbo zs::All bro (xs.eraseIdx i)::Sl 45 5 (some ⟨bl,ol,none⟩) m.T.l.length cl (rows brc xs)::MuS W M p m::blk B.pb 65 (rgC p B m.s.g)::RoP W p B.adO B.cO::blk B.core.cb 83 (rcC m.s.k B.core A)::RLn B.core.lb B.core.lo B.core.cL m.s.k.ls::blk B.core.hb 3 (heC m.s.k.ps)::blk B.core.ab 3 (haC m.s.k.ps)::blk B.core.wb 244 (rows wdC m.s.k.ps)::blk B.core.xb 4 (apC m.s.k.ps)::Sl 68 1 A.adM m.s.k.mr.length A.cM (mrC m.s.k.mr)::Sl 223 3 A.adE m.s.k.ev.length A.cE (rows rawC m.s.k.ev)::L)) (m.s.k.n) (⟨0,⟨rfl,by omega⟩,ha.keep [0,1,5,6,7,8,9],hs.sub⟩) ?_
   clear ha hs
   rintro μ a w ⟨v,⟨rfl,hv⟩,ha,hs⟩
   refine IF 12 ha hs (λhc4 a ha=>?_) λhc4 a ha=>?_
   ·
    have hvz:v<z.2.2.length:=by omega
    obtain⟨bz,oz,hz1,_⟩:=((hS _ hs).2.2 z (List.mem_of_getElem? hzi)).get (by omega)
    refine RN 6 ha hs λa ha=>?_
    refine SS ha (ld1 ha ((hS _ hs).1 1 _ rfl)) λa ha=>?_
    rw[hfx]at ha
    refine RN 2 ha hs λa ha=>?_
    rw[show ((frontK m.s.k:Nat):Int)+(k:Int)=((frontK m.s.k+k:Nat):Int) from rfl]at ha
    refine RN 2 ha hs λa ha=>?_
    obtain⟨ys,hys,hs⟩:=RLn.open (hs.pick (RLn B.core.lb B.core.lo B.core.cL m.s.k.ls))
    have hyl:ys.length=m.s.k.ls.length:=by rw[← hys,prx_len]
    obtain⟨b9,o9,y,hbe,hy,_,_⟩:=(St.rdXe hs).at (i:=v) (by omega)
    cases hbe
    have hyv:m.s.k.ls.getD v []=y.2.2:=by rw[← hys,prx_get hy]
    have hkn:frontK m.s.k+k<y.2.2.length→y.2.2.getD (frontK m.s.k+k) 0=z.2.2.getD v 0:=λh1=>by
      have:=knP_atB (i:=k) (q:=v) hxk (by omega) (by rw[hzp];exact hvz) (by rw[hyv];exact h1)
      rw[hyv,hzp]at this;exact this
    have hQ:∀ w,St W w (Sl 128 1 (some ⟨B.core.lb,B.core.lo,none⟩) m.s.k.ls.length B.core.cL (ys.map bbv)::All bbo ys::Sl 22 1 ax x.press.length cx (zs.map bbv)::All bbo zs::blk B.pb 65 (rgC p B m.s.g)::blk B.core.cb 83 (rcC m.s.k B.core A)::[])→(Rd w B.pb 0 (rgC p B m.s.g)∧Rd w B.core.cb 0 (rcC m.s.k B.core A))∧(w.cell? ⟨B.core.lb,B.core.lo+v,none⟩=some (bbv y)∧RdB w y.1 y.2.2.length y.2.2)∧RdB w z.1 z.2.2.length z.2.2:=λw h=>by
      obtain⟨b8,o8,y2,hbe2,hy2,hc2,hr2⟩:=(St.rdXe h).at (i:=v) (by omega)
      cases hbe2
      rw[hy]at hy2;cases hy2
      exact⟨⟨h.rdAll (b:=B.pb),h.rdAll (b:=B.core.cb)⟩,⟨hc2,hr2⟩,(St.rdX (h.sub (M:=Sl 22 1 ax x.press.length cx (zs.map bbv)::All bbo zs::[]))).2 z (List.mem_of_getElem? hzi)⟩
    refine DWC 0 (λw0 w'=>(Rd w' B.pb 0 (rgC p B m.s.g)∧Rd w' B.core.cb 0 (rcC m.s.k B.core A))∧(w'.cell? ⟨B.core.lb,B.core.lo+v,none⟩=some (bbv y)∧RdB w' y.1 y.2.2.length y.2.2)∧RdB w' z.1 z.2.2.length z.2.2) [32] [0,1,2,3,8,1004,5,6,1007,9,10,1011,12,13,14,15,16,17,22,26,29,30,31,3018,19,20,3021,23,24,3025,27,3028,1032,33,34] ha hs λa w ha hs hH=>?_
    have hC:=hH.at w (hQ _ hs.sub)
    refine RH 5 ha hs hH hC λa ha=>?_
    refine SS ha (ld1 ha (hC.1.1 0 _ rfl)) λa ha=>?_
    refine RH 2 ha hs hH hC λa ha=>?_
    refine SS ha (ld1 ha (hC.1.2 10 _ rfl)) λa ha=>?_
    refine RH 2 ha hs hH hC λa ha=>?_
    refine SS ha (ld1 ha (hC.2.1.1)) λa ha=>?_
    rw[bbv]at ha
    refine RH 3 ha hs hH hC λa ha=>?_
    refine ha.by (s:=109) (λhg14 ha=>?_) (λhg14 ha=>?_)
    ·
     obtain⟨by9,oy9,hye,_⟩:=hC.2.1.2.get (by omega)
     have hlt9:frontK m.s.k+k<y.2.2.length:=by omega
     have hkn2:=hkn hlt9
     refine RH 7 ha hs hH hC λa ha=>?_
     rw[hz1]at ha
     refine RH 1 ha hs hH hC λa ha=>?_
     refine QH ha (λw hc=>ld1 ha (hc.1.1 0 _ rfl)) hC λa ha=>?_
     refine RH 2 ha hs hH hC λa ha=>?_
     refine QH ha (λw hc=>ld1 ha (hc.1.2 10 _ rfl)) hC λa ha=>?_
     refine RH 2 ha hs hH hC λa ha=>?_
     refine QH ha (λw hc=>ld1 ha (hc.2.1.1)) hC λa ha=>?_
     rw[bbv]at ha
     rw[hye]at ha
     refine RH 1 ha hs hH hC λa ha=>?_
     refine QH ha (λw hc=>ld1 ha (RdB.cell hc.2.1.2 hye hlt9)) hC λa ha=>?_
     rw[hkn2]at ha
     refine RH 0 ha hs hH hC λa ha=>?_
     refine st_set ha (wgT ha rfl (s:=109)) (ld1 ha (RdB.cell hC.2.2 hz1 hvz)) rfl λa ha=>?_
     refine RH 1 ha hs hH hC λa ha=>?_
     rw[dne]at ha
     refine RH 1 ha hs hH hC λa ha=>?_
     replace ha:=ha.isF 129
     refine RN 4 ha hs λa ha=>?_
     rw[← hz1]at ha
     exact⟨m.s.k.n-(v+1),by omega,v+1,⟨rfl,by omega⟩,ha.keep [0,1,5,6,7,8,9],(RLn.close (hs.sub (M:=Sl 128 1 (some ⟨B.core.lb,B.core.lo,none⟩) m.s.k.ls.length B.core.cL (ys.map bbv)::All bbo ys::Sl 22 1 ax x.press.length cx (zs.map bbv)::All bbo zs::All bro (xs.eraseIdx i)::Sl 45 5 (some ⟨bl,ol,none⟩) m.T.l.length cl (rows brc xs)::MuS W M p m::blk B.pb 65 (rgC p B m.s.g)::RoP W p B.adO B.cO::blk B.core.cb 83 (rcC m.s.k B.core A)::blk B.core.hb 3 (heC m.s.k.ps)::blk B.core.ab 3 (haC m.s.k.ps)::blk B.core.wb 244 (rows wdC m.s.k.ps)::blk B.core.xb 4 (apC m.s.k.ps)::Sl 68 1 A.adM m.s.k.mr.length A.cM (mrC m.s.k.mr)::Sl 223 3 A.adE m.s.k.ev.length A.cE (rows rawC m.s.k.ev)::L)) hys).sub⟩
    refine RH 20 ha hs hH hC λa ha=>?_
    refine RN 4 ha hs λa ha=>?_
    exact⟨m.s.k.n-(v+1),by omega,v+1,⟨rfl,by omega⟩,ha.keep [0,1,5,6,7,8,9],(RLn.close (hs.sub (M:=Sl 128 1 (some ⟨B.core.lb,B.core.lo,none⟩) m.s.k.ls.length B.core.cL (ys.map bbv)::All bbo ys::Sl 22 1 ax x.press.length cx (zs.map bbv)::All bbo zs::All bro (xs.eraseIdx i)::Sl 45 5 (some ⟨bl,ol,none⟩) m.T.l.length cl (rows brc xs)::MuS W M p m::blk B.pb 65 (rgC p B m.s.g)::RoP W p B.adO B.cO::blk B.core.cb 83 (rcC m.s.k B.core A)::blk B.core.hb 3 (heC m.s.k.ps)::blk B.core.ab 3 (haC m.s.k.ps)::blk B.core.wb 244 (rows wdC m.s.k.ps)::blk B.core.xb 4 (apC m.s.k.ps)::Sl 68 1 A.adM m.s.k.mr.length A.cM (mrC m.s.k.mr)::Sl 223 3 A.adE m.s.k.ev.length A.cE (rows rawC m.s.k.ev)::L)) hys).sub⟩
   refine RN 3 ha hs λa ha=>?_
   exact⟨x.press.length-(k+1),by omega,k+1,⟨rfl,by omega⟩,ha.keep [0,1,5,6,7],hs.sub⟩
  refine RN 0 ha hs λa ha=>?_
  refine wp_seq_cut (M:=λa w=>∃ b11:Nat,Fr a 172 [(0,pt M.mb),(1,pt B.pb),(5,.slice (some ⟨bl,ol,none⟩) m.T.l.length cl),(6,.int .i64 i),(11,pt b11),(12,.bool true)]∧St W w (blk b11 116 (ints .i32 32 px.g)::Sl 22 1 ax x.press.length cx (zs.map bbv)::All bbo zs::All bro (xs.eraseIdx i)::Sl 45 5 (some ⟨bl,ol,none⟩) m.T.l.length cl (rows brc xs)::MuS W M p m::blk B.pb 65 (rgC p B m.s.g)::RoP W p B.adO B.cO::blk B.core.cb 83 (rcC m.s.k B.core A)::RLn B.core.lb B.core.lo B.core.cL m.s.k.ls::blk B.core.hb 3 (heC m.s.k.ps)::blk B.core.ab 3 (haC m.s.k.ps)::blk B.core.wb 244 (rows wdC m.s.k.ps)::blk B.core.xb 4 (apC m.s.k.ps)::Sl 68 1 A.adM m.s.k.mr.length A.cM (mrC m.s.k.mr)::Sl 223 3 A.adE m.s.k.ev.length A.cE (rows rawC m.s.k.ev)::L)) ?_ ?_
  ·
   refine DWC 0 (λw0 w'=>Rd w' bl (ol+i*5) (brC x ax cx)) [1,11] [0,2,3,4,5,3006,2001,2007,8,9,10,1011,1012,13] ha hs λa w ha hs hH=>?_
   have hC:=hH.at w ((hS _ hs).1)
   refine RH 5 ha hs hH hC λa ha=>?_
   refine QH ha (λw hc=>ld1 ha (hc 4 _ rfl)) hC λa ha=>?_
   refine RH 0 ha hs hH hC λa ha=>?_
   refine DN [(1,[2007,8,9,10,1011,1012,13]),(11,[1001,1007,8,9,10,1012,13])] (by kernel_rfl) rfl ⟨⟨_,rfl,?_⟩,⟨_,rfl,?_⟩,trivial⟩
   ·
    refine RH 0 ha hs hH hC λa ha=>?_
    refine CL 0 ha hs (mu_store (hs.pick (MuS W M p m))) λa w ha hs=>?_
    replace hC:=hH.at w ((hS _ hs.sub).1)
    refine RH 0 ha hs hH hC λa ha=>?_
    refine DN [(7,[8,9,10,1011,1012,13]),(11,[1007,8,9,10,1012,13])] (by kernel_rfl) rfl ⟨⟨_,rfl,?_⟩,⟨_,rfl,?_⟩,trivial⟩
    ·
     replace hs:=MuS.open (hs.pick (MuS W M p m))
     refine RH 0 ha hs hH hC λa ha=>?_
     refine CL 0 ha hs (snap_state_id (hs.store M.sq) hpx hpid) λa w ha hs=>?_
     replace hs:=MuS.fold hs M p m
     refine RN 3 ha hs λa ha=>?_
     refine st_alloc ha rfl hs Ty.t116 rfl λb11 a w ha hs ho=>?_
     clear ho
     replace hC:=hH.at w ((hS _ hs.sub).1)
     change St W w (blk b11 116 (ints .i32 32 (λ_=>0))::_) at hs
     refine RH 0 ha hs hH hC λa ha=>?_
     refine SA 0 ha hs λa w ha hs=>?_
     refine RN 1 ha hs λa ha=>?_
     exact⟨_,ha.keep [0,1,5,6,11,12],hs.sub⟩
    refine RH 0 ha hs hH hC λa ha=>?_
    refine st_alloc ha rfl hs Ty.t116 rfl λb11 a w ha hs ho=>?_
    clear ho
    replace hC:=hH.at w ((hS _ hs.sub).1)
    change St W w (blk b11 116 (ints .i32 32 (λ_=>0))::_) at hs
    replace hs:=MuS.open (hs.pick (MuS W M p m))
    refine RH 0 ha hs hH hC λa ha=>?_
    refine CL 0 ha hs (snap_state_id (hs.store M.sq) hpx hpid) λa w ha hs=>?_
    replace hs:=MuS.fold hs M p m
    refine SA 3 ha hs λa w ha hs=>?_
    refine RN 1 ha hs λa ha=>?_
    exact⟨_,ha.keep [0,1,5,6,11,12],hs.sub⟩
   refine RH 0 ha hs hH hC λa ha=>?_
   refine st_alloc ha rfl hs Ty.t116 rfl λb11 a w ha hs ho=>?_
   clear ho
   replace hC:=hH.at w ((hS _ hs.sub).1)
   change St W w (blk b11 116 (ints .i32 32 (λ_=>0))::_) at hs
   refine RH 0 ha hs hH hC λa ha=>?_
   refine CL 0 ha hs (mu_store (hs.pick (MuS W M p m))) λa w ha hs=>?_
   replace hC:=hH.at w ((hS _ hs.sub).1)
   replace hs:=MuS.open (hs.pick (MuS W M p m))
   refine RH 0 ha hs hH hC λa ha=>?_
   refine CL 0 ha hs (snap_state_id (hs.store M.sq) hpx hpid) λa w ha hs=>?_
   replace hs:=MuS.fold hs M p m
   refine SA 3 ha hs λa w ha hs=>?_
   refine RN 1 ha hs λa ha=>?_
   exact⟨_,ha.keep [0,1,5,6,11,12],hs.sub⟩
  clear ha;(try clear hs)
  rintro a w ⟨b11,ha,hs⟩
  refine DWC 1 (λw0 w'=>Rd w' b11 0 (ints .i32 32 px.g)∧Rd w' B.pb 0 (rgC p B m.s.g)∧Rd w' bl (ol+i*5) (brC x ax cx)) [7,11,15,16,21,26,27,28] [0,1,2,4,5,6,8,9,10,12,13,14,17,18,19,20,22,23,24,25,3003,3007,3011,3015,3021,3026,3027,1016,1028,29,30] ha hs λa w ha hs hH=>?_
  have hC:=hH.at w ⟨hs.rdAll (b:=b11),hs.rdAll (b:=B.pb),(hS _ hs.sub).1⟩
  refine RH 3 ha hs hH hC λa ha=>?_
  replace ha:=ha.isF 143
  refine RH 17 ha hs hH hC λa ha=>?_
  refine QH ha (λw hc=>ex_loadN ha Tryz.underlying116 rfl Ty.t116 (hc.1)) hC λa ha=>?_
  refine QH ha (λw hc=>ex_loadN ha Tryz.underlying34 rfl Ty.t34 (rgC_pr hc.2.1)) hC λa ha=>?_
  refine QH ha (λw hc=>ex_loadN ha Tryz.underlying63 rfl Ty.t63 (rgC_st hc.2.1)) hC λa ha=>?_
  refine QH ha (λw hc=>ld1 ha (hc.2.1 0 _ rfl)) hC λa ha=>?_
  refine QH ha (λw hc=>ld1 ha (hc.2.2 2 _ rfl)) hC λa ha=>?_
  refine QH ha (λw hc=>ld1 ha (hc.2.2 3 _ rfl)) hC λa ha=>?_
  refine RH 1 ha hs hH hC λa ha=>?_
  rw[cutAd_zero,Nat.sub_zero,Nat.sub_zero]at ha
  refine CL 0 ha hs (ref_frontA ((hs.pick (blk B.core.cb 83 (rcC m.s.k B.core A))).pick (RLn B.core.lb B.core.lo B.core.cL m.s.k.ls)) hw.wc) λa w ha hs=>?_
  replace hC:=hH.at w ⟨hs.rdAll (b:=b11),hs.rdAll (b:=B.pb),(hS _ hs.sub).1⟩
  refine RH 0 ha hs hH hC λa ha=>?_
  refine CL 0 ha hs (refFold_len (p:=p) (P:=x.press.take x.done) (zs:=zs.take x.done) (fr:=frontK m.s.k) (hs.pick (RoP W p B.adO B.cO)) (by rw[List.length_take];omega) hpr hsz (hw.gok hpr) ⟨by rw[List.length_take];omega,λb hb=>hxo.1.2 b (List.mem_of_mem_take hb)⟩ (by rw[List.map_take,hz]) (by omega) (λw' h=>(St.rdX (h.sub (M:=Sl 22 1 ax x.press.length cx (zs.map bbv)::All bbo zs::[]))).takeN x.done)) λa w ha ⟨_,hs⟩=>?_
  replace hC:=hH.at w ⟨hs.rdAll (b:=b11),hs.rdAll (b:=B.pb),(hS _ hs.sub).1⟩
  refine RH 0 ha hs hH hC λa ha=>?_
  refine QP ha (λw=>ex_neqA ha Tryz.underlying63 Tryz.underlying21 Ty.t21 (by kernel_rfl) Tryz.eqGuardType63) λa ha=>?_
  rw[hgx,sameN_self,Bool.not_true]at ha
  refine RH 1 ha hs hH hC λa ha=>?_
  replace ha:=ha.isF 171
  refine RN 4 ha hs λa ha=>?_
  exact⟨m.T.l.length-(i+1),by omega,i+1,⟨rfl,by omega⟩,ha.keep [0,1,5,6],(St.brIn (n:=x.press.length) (L':=Sl 45 5 (some ⟨bl,ol,none⟩) m.T.l.length cl (rows brc xs)::MuS W M p m::blk B.pb 65 (rgC p B m.s.g)::RoP W p B.adO B.cO::blk B.core.cb 83 (rcC m.s.k B.core A)::RLn B.core.lb B.core.lo B.core.cL m.s.k.ls::blk B.core.hb 3 (heC m.s.k.ps)::blk B.core.ab 3 (haC m.s.k.ps)::blk B.core.wb 244 (rows wdC m.s.k.ps)::blk B.core.xb 4 (apC m.s.k.ps)::Sl 68 1 A.adM m.s.k.mr.length A.cM (mrC m.s.k.mr)::Sl 223 3 A.adE m.s.k.ev.length A.cE (rows rawC m.s.k.ev)::L) (hs.sub (M:=Sl 22 1 ax x.press.length cx (zs.map bbv)::All bbo zs::All bro (xs.eraseIdx i)::Sl 45 5 (some ⟨bl,ol,none⟩) m.T.l.length cl (rows brc xs)::MuS W M p m::blk B.pb 65 (rgC p B m.s.g)::RoP W p B.adO B.cO::blk B.core.cb 83 (rcC m.s.k B.core A)::RLn B.core.lb B.core.lo B.core.cL m.s.k.ls::blk B.core.hb 3 (heC m.s.k.ps)::blk B.core.ab 3 (haC m.s.k.ps)::blk B.core.wb 244 (rows wdC m.s.k.ps)::blk B.core.xb 4 (apC m.s.k.ps)::Sl 68 1 A.adM m.s.k.mr.length A.cM (mrC m.s.k.mr)::Sl 223 3 A.adE m.s.k.ev.length A.cE (rows rawC m.s.k.ev)::L)) hx hz rfl).sub⟩
 refine RT 2 ha hs ?_
 refine⟨rfl,?_⟩
 exact (RefG.fold (RefS.fold hs B.core m.s.k A) B p m.s).sub
end
section
variable {W w:World}{L:List SP}{i:Nat}{M:MuB}{B:RgB}{p:Pr}{s:Pl}{cf:Cf}
theorem branchesJ (hs:St W w (MuJ W M p cf i s::RefG W B p s::L))(hpr:prOk p)(hsz:p.title.size≤1000000000) :
   Calls Tryz.prog 23 #[pt M.mb,pt B.pb] w λe w'=>e=.returned (.bool true)∧St W w' (MuJ W M p cf i s::RefG W B p s::L):=by
 replace hs:=MuJ.open hs
 obtain⟨m,⟨rfl,hI,hc⟩,hs⟩:=hs
 exact (branches_spec hs hI hpr hsz).mono λe w' ⟨h1,h2⟩=>⟨h1,MuJ.close h2 hI (Nat.le_refl _) rfl hc⟩
end
end
section
set_option maxHeartbeats 8000000 in
theorem multiRight_walk (a0:Option Addr)(len0 cap0:Nat)(z0:List Int)(gu bt:Int)(W:World)(w0:ArgInts .u8 W a0 len0 cap0 z0)(w1:(Lit.int .i64 gu).wf=true)(w2:(Lit.int .i64 bt).wf=true) :
   Calls Tryz.prog 7 #[.slice a0 len0 cap0,.int .i64 gu,.int .i64 bt] W λe w'=>e=.returned (.bool true)∧Below W.heap.size W w':=by
 have hs:=St.start W
 obtain⟨P0,hP0,hrP0⟩:=w0.bytesB
 have hcap0:=capLe w0
 refine EN Tryz.func7 Tryz.ntmps7 rfl rfl λa ha=>?_
 refine CL 3 ha hs (begun26 hs) λa w ha hs=>?_
 refine RN 5 ha hs λa ha=>?_
 replace ha:=ha.isF 19
 refine CL2 3 ha hs (shortN (K:=8) hs hrP0 hcap0) λaP cP a w ha ⟨hrP,hcP,hs⟩=>?_
 refine RN 1 ha hs λa ha=>?_
 have hPl:(P0.take 8).length≤8:=by rw[List.length_take];omega
 generalize P0.take 8=P at ha hrP hcP hPl
 refine AL 2 ha hs λb8 a w ha hs=>?_
 refine SA 0 ha hs λa w ha hs=>?_
 change St W w (blk b8 27 (cfC ⟨2,0,0,0,12,1,0,4,2,8⟩)::_) at hs
 obtain⟨cf,hcf⟩:∃ cf:Cf,cf=⟨2,0,0,0,12,1,0,4,2,8⟩:=⟨_,rfl⟩
 rw[← hcf]at hs
 have hmc:mayCf cf:=by rw[hcf];decide
 have hma:mayAll cf sumP []:=⟨hmc,sumP_ok,by rw[hcf];decide⟩
 have hcn:cf.n=2:=by rw[hcf]
 clear hcf
 refine DWC 1 (λw0 w'=>Rd w' b8 0 (cfC cf)) [1] [3000,1001,1002,3,4,5,6,7] ha hs λa w ha hs hH=>?_
 have hC:=hH.at w (hs.rdAll (b:=b8))
 refine RH 0 ha hs hH hC λa ha=>?_
 refine QH ha (λw hc=>ex_loadN ha Tryz.underlying27 rfl Ty.t27 (hc)) hC λa ha=>?_
 refine RH 0 ha hs hH hC λa ha=>?_
 refine CL1 0 ha hs (prog22 hs) λadQ a w ha hs=>?_
 replace hC:=hH.at w (hs.rdAll (b:=b8))
 refine RH 0 ha hs hH hC λa ha=>?_
 refine CL1 0 ha hs (mu_newY (cf:=cf) (tb:=[]) hma hs rfl (by decide) (by decide) (by decide) (λw' h=>RdB.nil)) λM a w ha ⟨hgs,hs⟩=>?_
 refine RN 5 ha hs λa ha=>?_
 refine RN 5 ha hs λa ha=>?_
 replace ha:=ha.isF 31
 refine BY 4 ha hs (λhg6 a ha=>?_) λhg6 a ha=>?_
 ·
  refine RT 8 ha hs ?_
  exact⟨by first | rfl | simp,hs.below⟩
 refine IF 3 ha hs (λhc1 a ha=>?_) λhc1 a ha=>?_
 ·
  refine RT 4 ha hs ?_
  exact⟨by first | rfl | simp,hs.below⟩
 obtain⟨nb,rfl⟩:=Int.eq_ofNat_of_zero_le (a:=bt) (by omega)
 refine DWC 1 (λw0 w'=>Rd w' b8 0 (cfC cf)) [1] [3000,1001,1002,3] ha hs λa w ha hs hH=>?_
 have hC:=hH.at w (hs.rdAll (b:=b8))
 refine RH 0 ha hs hH hC λa ha=>?_
 refine QH ha (λw hc=>ex_loadN ha Tryz.underlying27 rfl Ty.t27 (hc)) hC λa ha=>?_
 refine RH 0 ha hs hH hC λa ha=>?_
 refine CL1 0 ha hs (prog22 hs) λadQ2 a w ha hs=>?_
 replace hC:=hH.at w (hs.rdAll (b:=b8))
 refine RH 0 ha hs hH hC λa ha=>?_
 refine CL1 0 ha hs (refP_newZ (cf:=cf) (tb:=[]) hmc hs rfl sumP_ok (by decide)) λB a w ha ⟨⟨hcg,hcT⟩,hs⟩=>?_
 refine RN 1 ha hs λa ha=>?_
 have hwf0:=WF'.new (p:=sumP) hmc
 have hbg:B.gs=M.B.gs:=by rw[hcg,hgs]
 have hgm:mayGs B.gs:=by rw[hcg];exact hma.2.2
 have hT0:RdB W B.adT B.gs.table.length B.gs.table:=by rw[hcg,hcT];exact RdB.nil
 have hn0:ksCf (newP sumP cf).k=cf:=newP_cf hmc
 generalize newP sumP cf=s0 at hs hwf0 hn0
 refine RN 3 ha hs λa ha=>?_
 refine wp_loop_ghost (λμ a w=>∃ (i:Nat) (s:Pl),(μ=P.length-i∧i≤P.length∧WF' sumP s)∧Fr a 139 [(0,.slice aP P.length cP),(1,.int .i64 gu),(2,.int .i64 nb),(8,pt b8),(9,pt M.mb),(11,pt B.pb),(12,.int .i64 i)]∧St W w (MuJ W M sumP cf i s::RefG W B sumP s::blk b8 27 (cfC cf)::[])) (P.length) (⟨0,s0,⟨rfl,by omega,hwf0⟩,ha.keep [0,1,2,8,9,11,12],hs.sub⟩) ?_
 clear ha hs
 rintro μ a w ⟨i,s,⟨rfl,hi,hwf⟩,ha,hs⟩
 refine IF 6 ha hs (λhc2 a ha=>?_) λhc2 a ha=>?_
 ·
  have hip:i<P.length:=by omega
  obtain⟨bp,op,hade,_⟩:=hrP.get (by omega)
  refine DWC 2 (λw0 w'=>RdB w' aP P.length P) [5,10] [0,1,2,3,6,7,8,9,3004,3010,1005,1011,12] ha hs λa w ha hs hH=>?_
  have hC:=hH.at w (hrP.old hs)
  refine RH 3 ha hs hH hC λa ha=>?_
  rw[hade]at ha
  refine RH 1 ha hs hH hC λa ha=>?_
  rw[← hade]at ha
  refine RH 3 ha hs hH hC λa ha=>?_
  rw[hade]at ha
  refine RH 1 ha hs hH hC λa ha=>?_
  rw[← hade]at ha
  refine QH ha (λw hc=>ld1 ha (RdB.cellL hc hade hip)) hC λa ha=>?_
  refine QH ha (λw hc=>ld1 ha (RdB.cellL hc hade hip)) hC λa ha=>?_
  refine RH 0 ha hs hH hC λa ha=>?_
  refine CL 0 ha hs ((mu_play (M:=M) (cf:=cf) sumP_ok (by decide)).press _ _ _ s (P.getD i 0) (by omega) hwf hs) λa w ha hs=>?_
  replace hC:=hH.at w (hrP.old hs)
  refine RH 0 ha hs hH hC λa ha=>?_
  refine CL 0 ha hs (refP_press (x:=P.getD i 0) (hs.pick (RefG W B sumP s)) hwf sumP_ok (by decide)) λa w ha hs=>?_
  refine RN 1 ha hs λa ha=>?_
  rw[dne]at ha
  replace ha:=ha.isF 62
  refine RN 4 ha hs λa ha=>?_
  exact⟨P.length-(i+1),by omega,i+1,(pressP sumP (P.getD i 0) s).2,⟨rfl,by omega,hwf.press _⟩,ha.keep [0,1,2,8,9,11,12],hs.sub⟩
 refine RN 3 ha hs λa ha=>?_
 refine wp_loop_ghost (λμ a w=>∃ (v:Nat),(μ=nb-v∧v≤nb)∧Fr a 139 [(1,.int .i64 gu),(2,.int .i64 nb),(8,pt b8),(9,pt M.mb),(11,pt B.pb),(13,.int .i64 v)]∧St W w (MuJ W M sumP cf (8+v) s::RefG W B sumP s::blk b8 27 (cfC cf)::[])) (nb) (⟨0,⟨rfl,by omega⟩,ha.keep [1,2,8,9,11,13],MuJ.more hs (by omega)⟩) ?_
 clear ha hs
 rintro μ a w ⟨v,⟨rfl,hv⟩,ha,hs⟩
 refine IF 5 ha hs (λhc4 a ha=>?_) λhc4 a ha=>?_
 ·
  refine SX 3 ha hs (by decide) λa ha=>?_
  refine CL1 0 ha hs (mu_workJ hs sumP_ok (by decide) (by omega)) λz a w ha ⟨_,hs⟩=>?_
  refine RN 3 ha hs λa ha=>?_
  exact⟨nb-(v+1),by omega,v+1,⟨rfl,by omega⟩,ha.keep [1,2,8,9,11,13],hs.sub⟩
 refine RN 1 ha hs λa ha=>?_
 replace hs:=MuJ.more (j:=108) hs (by omega)
 have hhd:=hwf.wc.headt
 obtain⟨A,hs⟩:=RefS.open ((RefG.open (hs.pick (RefG W B sumP s))).pick (RefS B.core s.k))
 have hn8:=hwf.wc.n
 have hls8:=hwf.wc.ls
 refine DWC 0 (λw0 w'=>Rd w' B.pb 0 (rgC sumP B s.g)∧Rd w' B.core.cb 0 (rcC s.k B.core A)) [10,12,16,17] [0,1,2,7,8,9,11,13,14,15,3003,4,5,3006,3010,3016,1012,1017,1018,19] ha hs λa w ha hs hH=>?_
 have hC:=hH.at w ⟨hs.rdAll (b:=B.pb),hs.rdAll (b:=B.core.cb)⟩
 refine RH 10 ha hs hH hC λa ha=>?_
 refine QH ha (λw hc=>ld1 ha (hc.1 0 _ rfl)) hC λa ha=>?_
 refine RH 2 ha hs hH hC λa ha=>?_
 refine QH ha (λw hc=>ld1 ha (hc.2 10 _ rfl)) hC λa ha=>?_
 refine QH ha (λw hc=>ex_loadN ha Tryz.underlying61 rfl Ty.t61 (rgC_by hc.1)) hC λa ha=>?_
 refine QH ha (λw hc=>ld1 ha (hc.1 0 _ rfl)) hC λa ha=>?_
 refine RH 0 ha hs hH hC λa ha=>?_
 refine CL1 0 ha hs (small_nat (k:=4) hs (by decide)) λr4 a w ha ⟨hr4,hs⟩=>?_
 replace hC:=hH.at w ⟨hs.rdAll (b:=B.pb),hs.rdAll (b:=B.core.cb)⟩
 refine RH 0 ha hs hH hC λa ha=>?_
 refine CL 0 ha hs (ref_headA ((hs.pick (blk B.core.cb 83 (rcC s.k B.core A))).pick (RLn B.core.lb B.core.lo B.core.cL s.k.ls)) hwf.wc) λa w ha hs=>?_
 replace hC:=hH.at w ⟨hs.rdAll (b:=B.pb),hs.rdAll (b:=B.core.cb)⟩
 obtain⟨xs,hxs,hs⟩:=RLn.open (hs.pick (RLn B.core.lb B.core.lo B.core.cL s.k.ls))
 have hxl:xs.length=s.k.ls.length:=by rw[← hxs,prx_len]
 rw[← hxl]at ha
 refine RH 0 ha hs hH hC λa ha=>?_
 refine CL3 0 ha hs (ref_aheadG (xs:=xs) (b:=B.gs) (r:=r4) (to:=headK s.k) (by omega) hs hgm (by omega) (by omega) (by rw[hxs];exact hwf.wc.ln) hhd (λw' hw'=>St.rdXe hw') (λw' hw'=>hT0.old hw')) λadh ch X a w ha ⟨⟨hFX,_⟩,hs⟩=>?_
 refine RN 1 ha hs λa ha=>?_
 rw[hxs]at hFX ha hs
 obtain⟨hPj,_⟩:=aheadX_ok (fr:=frontL s.k.ls) hFX
 have hal:(aheadX X (frontL s.k.ls) (headK s.k)).length=headK s.k-frontL s.k.ls:=aheadX_len _ _ _
 generalize aheadX X (frontL s.k.ls) (headK s.k)=Q at hs hPj hal
 obtain⟨zs,hz1,_,hs⟩:=OwnBB.open hs
 have hzl:zs.length=Q.length:=by rw[← hz1,List.length_map]
 replace hs:=RLn.close (hs.sub (M:=Sl 128 1 (some ⟨B.core.lb,B.core.lo,none⟩) s.k.ls.length B.core.cL (xs.map bbv)::All bbo xs::Sl 22 1 adh (headK s.k-frontL s.k.ls) ch (zs.map bbv)::All bbo zs::MuJ W M sumP cf 108 s::blk b8 27 (cfC cf)::blk B.pb 65 (rgC sumP B s.g)::RoP W sumP B.adO B.cO::blk B.core.cb 83 (rcC s.k B.core A)::blk B.core.hb 3 (heC s.k.ps)::blk B.core.ab 3 (haC s.k.ps)::blk B.core.wb 244 (rows wdC s.k.ps)::blk B.core.xb 4 (apC s.k.ps)::Sl 68 1 A.adM s.k.mr.length A.cM (mrC s.k.mr)::Sl 223 3 A.adE s.k.ev.length A.cE (rows rawC s.k.ev)::[])) hxs
 replace hs:=RefG.fold (RefS.fold hs B.core s.k A) B sumP s
 have hQ2:∀ z∈zs,z.2.2.length=s.k.ls.length:=λz hz=>hPj _ (by rw[← hz1];exact List.mem_map.2 ⟨z,hz,rfl⟩)
 rw[← hal,← hzl]at ha hs
 have hq1:zs.length≤1000:=by omega
 have hls2:s.k.ls.length=2:=by
   rw[hls8]
   have h9:=(MuJ.open (hs.pick (MuJ W M sumP cf 108 s)))
   obtain⟨m9,⟨_,_,h9⟩,_⟩:=h9
   have h10:((s.k.n:Nat):Int)=cf.n:=by rw[← h9];rfl
   omega
 rw[hls2]at hQ2
 clear hPj hz1
 refine RN 3 ha hs λa ha=>?_
 refine wp_loop_ghost (λμ a w=>∃ (j:Nat) (s:Pl),(μ=zs.length-j∧j≤zs.length∧WF' sumP s)∧Fr a 139 [(8,pt b8),(9,pt M.mb),(11,pt B.pb),(14,.slice adh zs.length ch),(15,.int .i64 j)]∧St W w (MuJ W M sumP cf (108+2*j) s::RefG W B sumP s::Sl 22 1 adh zs.length ch (zs.map bbv)::All bbo zs::blk b8 27 (cfC cf)::[])) (zs.length) (⟨0,s,⟨rfl,by omega,hwf⟩,ha.keep [8,9,11,14,15],hs.sub⟩) ?_
 clear ha hs
 rintro μ a w ⟨j,s,⟨rfl,hj,hwf⟩,ha,hs⟩
 refine IF 6 ha hs (λhc5 a ha=>?_) λhc5 a ha=>?_
 ·
  have hjz:j<zs.length:=by omega
  have hRX:∀ w,St W w (Sl 22 1 adh zs.length ch (zs.map bbv)::All bbo zs::[])→RdX w adh zs:=λw h=>St.rdX h
  obtain⟨bx,ox,z,hade,hzi,hcell,hrz⟩:=(hRX _ hs.sub).at hjz
  have hzm:=List.mem_of_getElem? hzi
  have hz2:=hQ2 z hzm
  have hcz:z.2.2.length≤z.2.1:=by
    have h9:=St.allOut (hs.pick (All bbo zs)) hjz
    rw[show zs[j]=z from by rw[List.getElem?_eq_getElem hjz]at hzi;exact Option.some.inj hzi]at h9
    replace h9:St W w (Sl 5 1 z.1 z.2.2.length z.2.1 (bc z.2.2)::_):=h9
    exact (h9.sl z.1).2
  have hte:(z.2.2.drop 1).take 1=[z.2.2.getD 1 0]:=by
    rw[List.drop_eq_getElem_cons (by omega),List.getD_eq_getElem?_getD,List.getElem?_eq_getElem (by omega)];rfl
  refine RN 5 ha hs λa ha=>?_
  rw[hade]at ha
  refine RN 1 ha hs λa ha=>?_
  refine SS ha (ld1 ha (hcell)) λa ha=>?_
  rw[← hade]at ha
  rw[bbv]at ha
  refine CL2 2 ha hs (refPacket_spec (p:=pkT j [z.2.2.getD 1 0]) (ad:=cutAd z.1 1 z.2.1 1) (c:=z.2.1-1) hs (by show 0<4294967296;decide) (λw' hw=>by
    have h:=((hRX w' hw.sub).2 z hzm).cutLH (c:=z.2.1) (lo:=1) (n:=1) (by omega) hcz
    rw[hte]at h;exact h)) λadE cE a w ha hs=>?_
  have hEl:=encO_len (pkT j [z.2.2.getD 1 0])
  generalize encO (pkT j [z.2.2.getD 1 0])=E at ha hs hEl
  have hEc:=(hs.sl adE).2
  refine CL 5 ha hs ((mu_play (M:=M) (cf:=cf) sumP_ok (by decide)).recv _ _ _ s E adE cE (by omega) hwf (by omega) hEc (λw' hw'=>(hw'.pick (Sl 5 1 adE E.length cE (bc E))).rdB adE _ rfl rfl) (hs.pick (MuJ W M sumP cf (108+2*j) s))) λa w ha hs=>?_
  refine CL 2 ha hs (refP_receive (bs:=E) (hs.pick (RefG W B sumP s)) hwf sumP_ok (by decide) (by omega) hEc (λw' hw'=>(hw'.pick (Sl 5 1 adE E.length cE (bc E))).rdB adE _ rfl rfl)) λa w ha hs=>?_
  have hwf1:=hwf.recv E
  generalize (recvP sumP E s).2=s1 at hs hwf1
  refine RN 1 ha hs λa ha=>?_
  rw[dne]at ha
  refine RN 1 ha hs λa ha=>?_
  replace ha:=ha.isF 112
  refine CL 3 ha hs (shows_spec (i:=108+2*j+1) (mu_play (M:=M) (cf:=cf) sumP_ok (by decide)) (by omega) ((hs.pick (RefG W B sumP s1)).pick (MuJ W M sumP cf (108+2*j+1) s1)) hwf1 sumP_ok (by decide) hgm hbg hT0) λa w ha hs=>?_
  refine RN 3 ha hs λa ha=>?_
  replace ha:=ha.isF 119
  refine CL 2 ha hs (boundsJ hs) λa w ha hs=>?_
  refine RN 3 ha hs λa ha=>?_
  replace ha:=ha.isF 125
  refine CL 2 ha hs (branchesJ hs sumP_ok (by decide)) λa w ha hs=>?_
  refine RN 2 ha hs λa ha=>?_
  replace ha:=ha.isF 130
  refine SX 3 ha hs (by decide) λa ha=>?_
  refine CL1 0 ha hs (mu_workJ hs sumP_ok (by decide) (by omega)) λz9 a w ha ⟨_,hs⟩=>?_
  refine RN 3 ha hs λa ha=>?_
  exact⟨zs.length-(j+1),by omega,j+1,s1,⟨rfl,by omega,hwf1⟩,ha.keep [8,9,11,14,15],hs.sub⟩
 refine CL 4 ha hs (shows_spec (i:=108+2*j) (mu_play (M:=M) (cf:=cf) sumP_ok (by decide)) (by omega) hs hwf sumP_ok (by decide) hgm hbg hT0) λa w ha hs=>?_
 refine RT 1 ha hs ?_
 exact⟨rfl,hs.below⟩
end
section
set_option maxRecDepth 100000
theorem and2 {x y:Bool}(h:x=true)(k:y=true):(x&&y)=true:=by rw[h,k];rfl
theorem joined_of {P:Program}{f:FuncId}{fn:Func}{s:ChangeSpec}{c:OpenClaim}(k1:c.wf (OpenSpec.ofChange s)=true)(k2:laidOutB P=true)(k3:mapsRowed P=true)(k4:fn.params.all (P.readableRec ·)=true)(k5:namedTie P c.named s.vars=true)
   (k6:(c.stops==[])=true) (k7:(P.stops==[])=true) (k8:(c.knobs==[])=true) (k9:(P.stopKnobs==[])=true) (k10:(c.inPlace==P.inPlace f)=true) (k11:(c.unfollowed==P.unfollowed f)=true) (k12:(c.recurses==P.recurses f)=true) (k13:(c.named==P.varsNamed f)=true)
   (k14:(c.maps==(fn.params.toList++s.plain.varTypes P).any (P.mapsRec ·))=true) (k15:(c.ifaces==(fn.params.toList++s.plain.varTypes P).any (P.ifacesRec ·))=true) (k16:(c.mapsOut==P.mapsAmong fn.resultTypes.toList)=true)
   (k17:(c.loops==(fn.params.toList++s.plain.varTypes P).any (P.loopsFrom ·))=true) (k18:(c.wideKeys==(fn.params.toList++s.plain.varTypes P++fn.resultTypes.toList).any (P.wideKeysFrom ·))=true) (k19:s.vars.all (P.varReadable ·)=true) (k20:fn.resultTypes.all (λt=>P.readableRec t&&decide (t<P.types.size))=true)
   (k21:(c.ifacesOut==fn.resultTypes.toList.any (P.ifacesRec ·))=true) (k22:(c.loopsOut==fn.resultTypes.toList.any (P.loopsFrom ·))=true) (k23:(c.plainKeys==P.plainKeys)=true) (k24:c.shortTexts.isNone=true) (k25:P.stopsHeard=true) (k26:P.mayEnter=true) (k27:(c.lifted==P.liftsFinal)=true) (k28:(P.make==some c.make)=true)
   (k29:(c.kinds==(if c.domain.isEmpty then [] else fn.params.toList.map λt=>match P.underlying t with | some (.int k)=>some k | _=>none))=true) (k30:(c.pinned==c.pinnedBy)=true) (k31:(c.veiled==(fn.params.toList++s.plain.varTypes P++fn.resultTypes.toList).any (P.veiledRec ·))=true) (k32:c.veiledFits P fn.params.toList (fn.params.toList++s.plain.varTypes P++fn.resultTypes.toList)=true):joinedFacts P f fn s c=true:=by
 unfold joinedFacts
 exact and2 (and2 (and2 (and2 (and2 (and2 (and2 (and2 (and2 (and2 (and2 (and2 (and2 (and2 (and2 (and2 (and2 (and2 (and2 (and2 (and2 (and2 (and2 (and2 (and2 (and2 (and2 (and2 (and2 (and2 (and2 k1 k2) k3) k4) k5) k6) k7) k8) k9) k10) k11) k12) k13) k14) k15) k16) k17) k18) k19) k20) k21) k22) k23) k24) k25) k26) k27) k28) k29) k30) k31) k32
theorem fLaid:laidOutB Tryz.prog=true:=by kernel_rfl
theorem fMaps:mapsRowed Tryz.prog=true:=by kernel_rfl
theorem fHeard:Tryz.prog.stopsHeard=true:=by kernel_rfl
theorem fEnter:Tryz.prog.mayEnter=true:=by kernel_rfl
theorem fKeys (c:OpenClaim)(h:c.plainKeys=Rows.multiNoneRow.plainKeys):(c.plainKeys==Tryz.prog.plainKeys)=true:=by
 rw[h];kernel_rfl
theorem fLift (c:OpenClaim)(h:c.lifted=Rows.multiNoneRow.lifted):(c.lifted==Tryz.prog.liftsFinal)=true:=by
 rw[h];kernel_rfl
theorem fMake (c:OpenClaim)(h:c.make=Rows.multiNoneRow.make):(Tryz.prog.make==some c.make)=true:=by
 rw[h];kernel_rfl
end
end Go.Proofs.YtdilfdkendjjhaaGreat
