/- quintainref21.Player. -/
import Derived.Test.YtagpkhbkdbaigaaGreatRefC
import Derived.Test.YtagpkhbkdbaigaaGreatBeg
namespace Go.Proofs.YtagpkhbkdbaigaaGreat
open Go.RowKit
set_option linter.unusedVariables false
set_option linter.unusedSimpArgs false
set_option maxRecDepth 10000
set_option synthInstance.maxSize 4000
set_option synthInstance.maxHeartbeats 400000
structure RgB where
 pb : Nat
 core : RcB
 adO : Option Addr
 cO : Nat
 adT : Option Addr
 cT : Nat
 gs : Gs
def rgC (p : Pr) (B : RgB) (g : Nat→Int) : List Value:=[.pointer (some ⟨B.core.cb,0,none⟩),.string p.title,.slice B.adO p.ops.length B.cO,.int .i64 B.gs.kind,.int .i64 B.gs.order,.slice B.adT B.gs.table.length B.cT]++ints .i32 32 g
theorem rgC_pr {w : World} {b : Nat} {p : Pr} {B : RgB} {g : Nat→Int} (h : Rd w b 0 (rgC p B g)) : Rd w b 1 (prV p B.adO B.cO):=h.part 1 2
theorem rgC_by {w : World} {b : Nat} {p : Pr} {B : RgB} {g : Nat→Int} (h : Rd w b 0 (rgC p B g)) : Rd w b 3 (gsC B.gs B.adT B.cT):=h.part 3 3
theorem rgC_st {w : World} {b : Nat} {p : Pr} {B : RgB} {g : Nat→Int} (h : Rd w b 0 (rgC p B g)) : Rd w b 6 (ints .i32 32 g):=by
 have h1:=h.part 6 32
 rwa [show ((rgC p B g).drop 6).take 32=ints .i32 32 g from by
   show (ints .i32 32 g).take 32=_
   exact List.take_of_length_le (by rw [ints_len]; exact Nat.le_refl _)] at h1
theorem rgC_len (p : Pr) (B : RgB) (g : Nat→Int) : (rgC p B g).length=38:=by rw [rgC,List.length_append,ints_len]; rfl
theorem rgC_set (p : Pr) (B : RgB) (g g' : Nat→Int) : splice (rgC p B g) 6 (ints .i32 32 g')=rgC p B g':=by
 rw [splice,ints_len,List.drop_eq_nil_of_le (by rw [rgC_len]; exact Nat.le_refl _),List.append_nil,rgC,rgC]
 congr 1
def RefG (W : World) (B : RgB) (p : Pr) (s : Pl) : SP:=fun h=>sepL [blk B.pb 115 (rgC p B s.g),RefS B.core s.k,RoP W p B.adO B.cO] h
section
variable {W w : World} {L L' R : List SP} {n c m i cP cT : Nat} {ad adP adT : Option Addr} {B : RgB} {x : UInt8} {p : Pr} {s : Pl} {bs tb : List UInt8} {cf : Cf} {k : Ks} {C : RcB} {A : RcA}
theorem RefG.open (hs : St W w (RefG W B p s::L)) : St W w (blk B.pb 115 (rgC p B s.g)::RefS B.core s.k::RoP W p B.adO B.cO::L) :=
 hs.open (M:=[_,_,_]) fun _ h=>h
theorem RefG.fold (hs : St W w L) (B : RgB) (p : Pr) (s : Pl) [kk : Arr L [blk B.pb 115 (rgC p B s.g),RefS B.core s.k,RoP W p B.adO B.cO] R] : St W w (RefG W B p s::R) :=
 St.shut (M:=[_,_,_]) (hs.perm kk.perm) fun _ h=>h
theorem ref_frontA (hs : St W w (RLn C.lb C.lo C.cL k.ls::blk C.cb 127 (rcC k C A)::L)) (hk : WC k) : Calls Tryz.prog 111 #[.pointer (some ⟨C.cb,0,none⟩)] w fun r w'=>r=.returned (.int .i64 (frontK k))∧St W w' (RLn C.lb C.lo C.cL k.ls::blk C.cb 127 (rcC k C A)::L):=by
 have hn:=hk.n
 have hls:=hk.ls
 refine calls_enter Tryz.func111 rfl Tryz.ntmps111 (Nat.le_of_ble_eq_true rfl) ?_
 intro a ha
 replace ha : Fr a 8 [(0,_)]:=ha
 refine WS<|WR ?_
 refine S1 ha fun a ha=>?_
 refine LN<|TN<|WS<|WR ?_
 iterate 3 (refine S1 ha fun a ha=>?_)
 refine SL ha (hs.rd1 (b:=C.cb) rfl) fun a ha=>?_
 obtain ⟨xs,hxs,hs⟩:=RLn.open hs
 have hxl : xs.length=k.ls.length:=by rw [← hxs,prx_len]
 rw [← hxl] at ha
 refine SK (st_call ha rfl Ty.c57 rfl (ref_front (xs:=xs) hs (by omega) (by omega) (fun w' hw=>St.rdXe hw)) ?_); clear ha hs
 rintro e w ⟨rfl,hs⟩
 refine ⟨_,rfl,?_⟩
 intro a ha
 refine S1d ha fun a ha=>?_
 refine LN<|TN<|wp_ret ?_
 refine ret1 ha rfl ?_
 exact ⟨by rw [hxs]; rfl,RLn.close hs hxs⟩
theorem ref_plays (hs : St W w (RefG W B p s::L)) (hw : WP p s) (hpr : prOk p) (hsz : p.title.size≤1000000000) : Calls Tryz.prog 68 #[.pointer (some ⟨B.pb,0,none⟩)] w fun r w'=>r=.returned (.tuple #[])∧St W w' (RefG W B p (playP p s)::L):=by
 refine calls_enter Tryz.func68 rfl Tryz.ntmps68 (Nat.le_of_ble_eq_true rfl) ?_
 intro a ha
 replace ha : Fr a 60 [(0,_)]:=ha
 refine wp_block ?_
 refine wp_loop_ghost (fun μ a w=>∃ (i : Nat),(μ=frontK s.k - s.k.mr.length - i∧i≤frontK s.k - s.k.mr.length)∧Fr a 60 [(0,.pointer (some ⟨B.pb,0,none⟩))]∧St W w (RefG W B p (playN p i s)::L)) (frontK s.k - s.k.mr.length) ?_ ?_
 · exact ⟨0,⟨rfl,by omega⟩,ha.keep [0],hs⟩
 ·
  clear ha hs
  rintro μ a w ⟨i,⟨rfl,hi⟩,ha,hs⟩
  obtain ⟨hwi,hls,hml⟩:=hw.play i hi
  have hnx : playN p (i+1) s=play1 p (playN p i s):=playN_succ p i s
  have hlow:=hw.low
  have hfe : frontK (playN p i s).k=frontK s.k:=by rw [frontK,hls]; rfl
  generalize hsi : playN p i s=si at hs hwi hls hml hnx hfe
  replace hs:=RefG.open hs
  have hne:=hwi.wc.lne
  have hl8 : si.k.ls.length≤8:=by rw [hwi.wc.ls]; exact hwi.wc.n.2
  have hl0 : 0 < si.k.ls.length:=by rw [hwi.wc.ls]; have:=hwi.wc.n; omega
  have hfr1 : frontK si.k≤1000:=Nat.le_trans hwi.wc.frontt hwi.wc.headt
  obtain ⟨A,hs⟩:=RefS.open (hs.pick (RefS B.core si.k))
  refine WS<|WS ?_
  refine DW (m:=14) (fun w'=>Rd w' B.pb 0 (rgC p B si.g)∧Rd w' B.core.cb 0 (rcC si.k B.core A)) [11,12] [0,1,2,8,9,10,3,4,5,6,7,11,12,13] Ty.mixed (pk_then (pk_then (pk_then (pk_blk pk_body)))) (fun hpk=>?_)
  replace hs:=hs.drew
  generalize w.drew=w at hs hpk ⊢
  have hC : Rd w B.pb 0 (rgC p B si.g)∧Rd w B.core.cb 0 (rcC si.k B.core A):=⟨hs.rdAll (b:=B.pb),hs.rdAll (b:=B.core.cb)⟩
  iterate 6 (refine DP hpk ha rfl fun a ha=>?_)
  refine DL hpk ha rfl (fun w hc=>hc.1 0 _ rfl) hC fun a ha=>?_
  iterate 2 (refine DP hpk ha rfl fun a ha=>?_)
  refine DL hpk ha rfl (fun w hc=>hc.2 16 _ rfl) hC fun a ha=>?_
  refine DP hpk ha rfl fun a ha=>?_
  refine D1 rfl (st_set ha rfl (ex_load1 ha Tryz.underlying112 rfl (hC.1 0 _ rfl)) rfl fun a ha=>?_)
  replace hC : (fun w'=>Rd w' B.pb 0 (rgC p B si.g)∧Rd w' B.core.cb 0 (rcC si.k B.core A)) w:=hC
  refine ⟨fun _=>hC,?_⟩
  refine D1 rfl (st_call ha rfl Ty.c111 rfl (ref_frontA ((hs.pick (blk B.core.cb 127 (rcC si.k B.core A))).pick (RLn B.core.lb B.core.lo B.core.cL si.k.ls)) hwi.wc) ?_); clear ha hs
  rintro e w ⟨rfl,hs⟩
  refine ⟨_,rfl,?_⟩
  intro a ha
  replace hC : (fun w'=>Rd w' B.pb 0 (rgC p B si.g)∧Rd w' B.core.cb 0 (rcC si.k B.core A)) w:=⟨hs.rdAll (b:=B.pb),hs.rdAll (b:=B.core.cb)⟩
  refine ⟨fun _=>hC,?_⟩
  refine DP hpk ha rfl fun a ha=>?_
  refine DD<|TN ?_
  refine WI ha (fun hc0=>?_) (fun hc0=>?_)
  ·
   have hmf : si.k.mr.length < frontL si.k.ls:=by
     have : frontL si.k.ls=frontK si.k:=rfl
     omega
   have hmf2 : si.k.mr.length < frontK si.k:=hmf
   refine WK<|TN<|wp_block<|WS<|WR ?_
   iterate 3 (refine S1 ha fun a ha=>?_)
   refine SL ha (hs.rd1 (b:=B.pb) rfl) fun a ha=>?_
   iterate 2 (refine S1 ha fun a ha=>?_)
   refine SL ha (hs.rd1 (b:=B.core.cb) rfl) fun a ha=>?_
   iterate 2 (refine S1 ha fun a ha=>?_)
   refine LN<|TN<|WS ?_
   obtain ⟨xs,hxs,hs⟩:=RLn.open (hs.pick (RLn B.core.lb B.core.lo B.core.cL si.k.ls))
   have hxl : xs.length=si.k.ls.length:=by rw [← hxs,prx_len]
   have hjl:=jointL_len si.k.ls si.k.mr.length
   refine DW (m:=26) (fun w'=>Rd w' B.pb 0 (rgC p B si.g)∧Rd w' B.core.cb 0 (rcC si.k B.core A)) [8,13,14,15,16,18] [0,1,2,3,5,6,7,9,10,11,12,17,4,8,13,14,15,16,18,19,20,21,22,23,24,25] Ty.mixed (pk_then (pk_blk (pk_then (pk_blk pk_body)))) (fun hpk=>?_)
   replace hs:=hs.drew
   generalize w.drew=w at hs hpk ⊢
   have hC : Rd w B.pb 0 (rgC p B si.g)∧Rd w B.core.cb 0 (rcC si.k B.core A):=⟨hs.rdAll (b:=B.pb),hs.rdAll (b:=B.core.cb)⟩
   iterate 12 (refine DP hpk ha rfl fun a ha=>?_)
   refine DH hpk ha rfl rfl (fun w hc=>ex_loadN ha Tryz.underlying33 rfl Ty.t33 (rgC_pr hc.1)) hC fun a ha=>?_
   refine DH hpk ha rfl rfl (fun w hc=>ex_loadN ha Tryz.underlying46 rfl Ty.t46 (rgC_st hc.1)) hC fun a ha=>?_
   refine D1 rfl (st_set ha rfl (ex_load1 ha Tryz.underlying112 rfl (hC.1 0 _ rfl)) rfl fun a ha=>?_)
   replace hC : (fun w'=>Rd w' B.pb 0 (rgC p B si.g)∧Rd w' B.core.cb 0 (rcC si.k B.core A)) w:=hC
   refine ⟨fun _=>hC,?_⟩
   refine D1 rfl (st_set ha rfl (ex_nilCheck ha) rfl fun a ha=>?_)
   replace hC : (fun w'=>Rd w' B.pb 0 (rgC p B si.g)∧Rd w' B.core.cb 0 (rcC si.k B.core A)) w:=hC
   refine ⟨fun _=>hC,?_⟩
   refine D1 rfl (st_set ha rfl (ex_fieldAddr (k:=10) ha Tryz.underlying127 rfl Ty.t55 rfl) rfl fun a ha=>?_)
   replace hC : (fun w'=>Rd w' B.pb 0 (rgC p B si.g)∧Rd w' B.core.cb 0 (rcC si.k B.core A)) w:=hC
   refine ⟨fun _=>hC,?_⟩
   refine D1 rfl (st_set ha rfl (ex_load1 ha Tryz.underlying55 rfl (hC.2 10 _ rfl)) rfl fun a ha=>?_)
   replace hC : (fun w'=>Rd w' B.pb 0 (rgC p B si.g)∧Rd w' B.core.cb 0 (rcC si.k B.core A)) w:=hC
   refine ⟨fun _=>hC,?_⟩
   rw [← hxl] at ha
   refine D1 rfl (st_call ha rfl Ty.c22 rfl (ref_joint (xs:=xs) (f:=si.k.mr.length) hs (by omega) (by omega) (fun w' hw=>St.rdXe hw) (by rw [hxs]; exact hmf)) ?_); clear ha hs
   rintro e w ⟨adj,cj,rfl,hs⟩
   refine ⟨_,rfl,?_⟩
   intro a ha
   replace hC : (fun w'=>Rd w' B.pb 0 (rgC p B si.g)∧Rd w' B.core.cb 0 (rcC si.k B.core A)) w:=⟨hs.rdAll (b:=B.pb),hs.rdAll (b:=B.core.cb)⟩
   refine ⟨fun _=>hC,?_⟩
   rw [hxs] at ha hs
   refine D1 rfl (st_call ha rfl Ty.c50 rfl (refStep_spec (b:=jointL si.k.ls si.k.mr.length) (fr:=si.k.mr.length) (hs.pick (RoP W p B.adO B.cO)) hpr hsz (hwi.gok hpr) (by omega) (by omega) (fun w' hw=>(hw.pick (Sl 5 1 adj (jointL si.k.ls si.k.mr.length).length cj (bc (jointL si.k.ls si.k.mr.length)))).rdB adj _ rfl rfl)) ?_); clear ha hs
   rintro e w ⟨nst,rfl,hgk,hs⟩
   refine ⟨_,rfl,?_⟩
   intro a ha
   refine ⟨fun h=>absurd h (by decide),?_⟩
   iterate 5 (refine DP hpk ha rfl fun a ha=>?_)
   refine D1 rfl (st_storeN ha rfl hs Ty.t46 ints_one (by rw [ints_len,rgC_len]; decide) fun a w ha hs=>?_)
   refine ⟨fun h=>absurd h (by decide),?_⟩
   rw [rgC_set] at hs
   refine DD ?_
   replace hs:=RLn.close (hs.sub (M:=Sl 54 1 (some ⟨B.core.lb,B.core.lo,none⟩) si.k.ls.length B.core.cL (xs.map bbv)::All bbo xs::blk B.pb 115 (rgC p B (frameI p si.k.mr.length (jointL si.k.ls si.k.mr.length) si.g))::RoP W p B.adO B.cO::blk B.core.cb 127 (rcC si.k B.core A)::blk B.core.hb 3 (heC si.k.ps)::blk B.core.ab 3 (haC si.k.ps)::blk B.core.wb 210 (rows wdC si.k.ps)::blk B.core.xb 4 (apC si.k.ps)::Sl 38 1 A.adM si.k.mr.length A.cM (mrC si.k.mr)::Sl 144 3 A.adE si.k.ev.length A.cE (rows rawC si.k.ev)::L)) hxs
   replace hs:=RefS.fold hs B.core si.k A
   refine TN ?_
   refine DW (m:=10) (fun w'=>Rd w' B.pb 0 (rgC p B (frameI p si.k.mr.length (jointL si.k.ls si.k.mr.length) si.g))) [7,8] [0,1,2,4,5,6,3,7,8,9] Ty.mixed (pk_blk (pk_then (pk_blk pk_body))) (fun hpk=>?_)
   replace hs:=hs.drew
   generalize w.drew=w at hs hpk ⊢
   have hC : Rd w B.pb 0 (rgC p B (frameI p si.k.mr.length (jointL si.k.ls si.k.mr.length) si.g)):=hs.rdAll (b:=B.pb)
   iterate 6 (refine DP hpk ha rfl fun a ha=>?_)
   refine DL hpk ha rfl (fun w hc=>hc 0 _ rfl) hC fun a ha=>?_
   refine D1 rfl (st_set ha rfl (ex_loadN ha Tryz.underlying46 rfl Ty.t46 (rgC_st hC)) rfl fun a ha=>?_)
   replace hC : (fun w'=>Rd w' B.pb 0 (rgC p B (frameI p si.k.mr.length (jointL si.k.ls si.k.mr.length) si.g))) w:=hC
   refine ⟨fun _=>hC,?_⟩
   refine D1 rfl (st_call ha rfl Ty.c113 rfl (refSumOf_spec hs) ?_); clear ha hs
   rintro e w ⟨rfl,hs⟩
   refine ⟨_,rfl,?_⟩
   intro a ha
   replace hC : (fun w'=>Rd w' B.pb 0 (rgC p B (frameI p si.k.mr.length (jointL si.k.ls si.k.mr.length) si.g))) w:=hs.rdAll (b:=B.pb)
   refine ⟨fun _=>hC,?_⟩
   refine D1 rfl (st_call ha rfl Ty.c112 rfl (ref_mark (hs.pick (RefS B.core si.k)) hwi.wc (by omega) (crcSum_lt _)) ?_); clear ha hs
   rintro e w ⟨rfl,hs⟩
   refine ⟨_,rfl,?_⟩
   intro a ha
   refine ⟨fun h=>absurd h (by decide),?_⟩
   refine DD<|BN<|TN ?_
   exact ⟨frontK s.k - s.k.mr.length - (i+1),by omega,i+1,⟨rfl,by omega⟩,ha.keep [0],by
     rw [hnx]
     show St W w (RefG W B p ⟨markK si.k (crcSum (gameB (frameI p si.k.mr.length (jointL si.k.ls si.k.mr.length) si.g))),frameI p si.k.mr.length (jointL si.k.ls si.k.mr.length) si.g⟩::L)
     exact (RefG.fold hs B p ⟨markK si.k (crcSum (gameB (frameI p si.k.mr.length (jointL si.k.ls si.k.mr.length) si.g))),frameI p si.k.mr.length (jointL si.k.ls si.k.mr.length) si.g⟩).sub⟩
  ·
   refine wp_exit<|TE<|TE<|blk_e ?_
   refine end0 ha rfl ?_
   obtain rfl : i=frontK s.k - s.k.mr.length:=by
     have : frontL si.k.ls=frontK si.k:=rfl
     omega
   refine ⟨rfl,?_⟩
   rw [playP,hsi]
   exact (RefG.fold (RefS.fold hs B.core si.k A) B p si).sub
theorem refP_press (hs : St W w (RefG W B p s::L)) (hw : WF' p s) (hpr : prOk p) (hsz : p.title.size≤1000000000) : Calls Tryz.prog 69 #[.pointer (some ⟨B.pb,0,none⟩),.int .u8 (x.toNat : Nat)] w fun r w'=>r=.returned (.int .i64 (pressP p x s).1)∧St W w' (RefG W B p (pressP p x s).2::L):=by
 have h1:=press_ext x s.k
 have hwp:=hw.toWP.more (hw.wc.press x) (hw.held.press x) h1.1 h1.2
 replace hs:=RefG.open hs
 refine calls_enter Tryz.func69 rfl Tryz.ntmps69 (Nat.le_of_ble_eq_true rfl) ?_
 intro a ha
 replace ha : Fr a 15 [(0,_),(1,_)]:=ha
 refine WS<|WR ?_
 refine S1 ha fun a ha=>?_
 refine LN<|TN<|WS<|WR ?_
 iterate 3 (refine S1 ha fun a ha=>?_)
 refine SL ha (hs.rd1 (b:=B.pb) rfl) fun a ha=>?_
 refine S1 ha fun a ha=>?_
 refine SK (st_call ha rfl Ty.c114 rfl (ref_press (x:=x) (hs.pick (RefS B.core s.k)) hw.wc) ?_); clear ha hs
 rintro e w ⟨rfl,hs⟩
 refine ⟨_,rfl,?_⟩
 intro a ha
 refine S1 ha fun a ha=>?_
 refine LN ?_
 replace hs:=RefG.fold hs B p ⟨(pressK x s.k).2,s.g⟩
 refine TN<|WS<|WR ?_
 refine S1 ha fun a ha=>?_
 refine SK (st_call ha rfl Ty.c68 rfl (ref_plays hs hwp hpr hsz) ?_); clear ha hs
 rintro e w ⟨rfl,hs⟩
 refine ⟨_,rfl,?_⟩
 intro a ha
 refine LN<|TN<|WS<|WR ?_
 refine S1 ha fun a ha=>?_
 refine S1d ha fun a ha=>?_
 refine LN<|TN<|wp_ret ?_
 refine ret1 ha rfl ?_
 exact ⟨rfl,hs⟩
theorem refP_receive (hs : St W w (RefG W B p s::L)) (hw : WF' p s) (hpr : prOk p) (hsz : p.title.size≤1000000000) (hb : bs.length≤65536) (hc : bs.length≤c) (hp : ∀ w',St W w' L→RdB w' ad bs.length bs) :
   Calls Tryz.prog 74 #[.pointer (some ⟨B.pb,0,none⟩),.slice ad bs.length c] w fun r w'=>r=.returned (.int .i64 (recvP p bs s).1)∧St W w' (RefG W B p (recvP p bs s).2::L):=by
 have h1:=recv_ext bs s.k
 have hwp:=hw.toWP.more (hw.wc.recv bs).1 ((hw.wc.recv bs).2 hw.held) h1.1 h1.2
 replace hs:=RefG.open hs
 refine calls_enter Tryz.func74 rfl Tryz.ntmps74 (Nat.le_of_ble_eq_true rfl) ?_
 intro a ha
 replace ha : Fr a 15 [(0,_),(1,_)]:=ha
 refine WS<|WR ?_
 refine S1 ha fun a ha=>?_
 refine LN<|TN<|WS<|WR ?_
 iterate 3 (refine S1 ha fun a ha=>?_)
 refine SL ha (hs.rd1 (b:=B.pb) rfl) fun a ha=>?_
 refine S1 ha fun a ha=>?_
 refine SK (st_call ha rfl Ty.c117 rfl (ref_receive (bs:=bs) (ad:=ad) (c:=c) (hs.pick (RefS B.core s.k)) hw.wc hw.held hb hc (fun w' hw'=>hp w' hw'.tail.tail)) ?_); clear ha hs
 rintro e w ⟨rfl,hs⟩
 refine ⟨_,rfl,?_⟩
 intro a ha
 refine S1 ha fun a ha=>?_
 refine LN ?_
 replace hs:=RefG.fold hs B p ⟨(recvK bs s.k).2,s.g⟩
 refine TN<|WS<|WR ?_
 refine S1 ha fun a ha=>?_
 refine SK (st_call ha rfl Ty.c68 rfl (ref_plays hs hwp hpr hsz) ?_); clear ha hs
 rintro e w ⟨rfl,hs⟩
 refine ⟨_,rfl,?_⟩
 intro a ha
 refine LN<|TN<|WS<|WR ?_
 refine S1 ha fun a ha=>?_
 refine S1d ha fun a ha=>?_
 refine LN<|TN<|wp_ret ?_
 refine ret1 ha rfl ?_
 exact ⟨rfl,hs⟩
theorem refP_conf (hs : St W w (RefG W B p s::L)) (hw : WF' p s) : Calls Tryz.prog 79 #[.pointer (some ⟨B.pb,0,none⟩)] w fun r w'=>∃ ad c,r=.returned (.tuple #[.slice ad 128 c,.int .i64 (confP s).2])∧St W w' (Sl 5 1 ad 128 c (bc (confP s).1)::RefG W B p s::L):=by
 replace hs:=RefG.open hs
 refine calls_enter Tryz.func79 rfl Tryz.ntmps79 (Nat.le_of_ble_eq_true rfl) ?_
 intro a ha
 replace ha : Fr a 14 [(0,_)]:=ha
 refine WS<|WR ?_
 iterate 2 (refine S1 ha fun a ha=>?_)
 refine LN<|TN<|WS ?_
 refine DW (m:=12) (fun w'=>Rd w' B.pb 0 (rgC p B s.g)) [4,8] [0,1,2,5,6,7,3,8,4,9,10,11] Ty.mixed (pk_then pk_body) (fun hpk=>?_)
 replace hs:=hs.drew
 generalize w.drew=w at hs hpk ⊢
 have hC : Rd w B.pb 0 (rgC p B s.g):=hs.rdAll (b:=B.pb)
 iterate 6 (refine DP hpk ha rfl fun a ha=>?_)
 refine DH hpk ha rfl rfl (fun w hc=>ex_loadN ha Tryz.underlying46 rfl Ty.t46 (rgC_st hc)) hC fun a ha=>?_
 refine DL hpk ha rfl (fun w hc=>hc 0 _ rfl) hC fun a ha=>?_
 refine D1 rfl (st_call ha rfl Ty.c18 rfl (refBytes_spec hs) ?_); clear ha hs
 rintro e w ⟨ad,c,rfl,hs⟩
 refine ⟨_,rfl,?_⟩
 intro a ha
 replace hC : (fun w'=>Rd w' B.pb 0 (rgC p B s.g)) w:=hs.rdAll (b:=B.pb)
 refine ⟨fun _=>hC,?_⟩
 refine D1 rfl (st_call ha rfl Ty.c111 rfl (ref_frontC (hs.pick (RefS B.core s.k)) hw.wc) ?_); clear ha hs
 rintro e w ⟨rfl,hs⟩
 refine ⟨_,rfl,?_⟩
 intro a ha
 refine ⟨fun h=>absurd h (by decide),?_⟩
 replace ha:=ha.del 2
 refine DP hpk ha rfl fun a ha=>?_
 replace ha:=ha.del 3
 refine DP hpk ha rfl fun a ha=>?_
 refine DD<|TN<|wp_ret ?_
 refine ret2 ha rfl ?_
 exact ⟨ad,c,rfl,(RefG.fold hs B p s).sub (M:=Sl 5 1 ad 128 c (bc (gameB s.g))::RefG W B p s::L)⟩
theorem ref_headA (hs : St W w (RLn C.lb C.lo C.cL k.ls::blk C.cb 127 (rcC k C A)::L)) (hk : WC k) : Calls Tryz.prog 120 #[.pointer (some ⟨C.cb,0,none⟩)] w fun r w'=>r=.returned (.int .i64 (headK k))∧St W w' (RLn C.lb C.lo C.cL k.ls::blk C.cb 127 (rcC k C A)::L):=by
 have hme : k.me < k.ls.length:=by rw [hk.ls]; exact hk.me
 refine calls_enter Tryz.func120 rfl Tryz.ntmps120 (Nat.le_of_ble_eq_true rfl) ?_
 intro a ha
 replace ha : Fr a 16 [(0,_)]:=ha
 refine WS<|WR ?_
 refine S1 ha fun a ha=>?_
 refine LN<|TN<|WS ?_
 obtain ⟨xs,hxs,hs⟩:=RLn.open hs
 have hxl : xs.length=k.ls.length:=by rw [← hxs,prx_len]
 obtain ⟨bl,ol,y,hbe,hy,hcy,hry⟩:=(St.rdXe hs.drew).at (i:=k.me) (by omega)
 cases hbe
 have hyl : headK k=y.2.2.length:=by
   show (k.ls.getD k.me []).length=_
   rw [← hxs,prx_get hy]
 refine DW (m:=14) (Old w.drew) [8] [0,1,2,4,5,6,7,3,8,9,10,11,12,13] Ty.mixed (pk_then pk_body) (fun hpk=>?_)
 replace hs:=hs.drew
 have hC:=Old.refl w.drew
 generalize w.drew=w at hs hC hpk hcy hry ⊢
 iterate 7 (refine DP hpk ha rfl fun a ha=>?_)
 refine DL hpk ha rfl (fun w hc=>hc.cell (hs.rd1 (b:=C.cb) rfl)) hC fun a ha=>?_
 refine D1 rfl (st_set ha rfl (ex_load1 ha Tryz.underlying3 rfl (hs.rd1 (b:=C.cb) rfl)) rfl fun a ha=>?_)
 refine ⟨fun _=>hC,?_⟩
 refine DQ hpk ha rfl rfl (fun w=>ex_indexAddr ha Tryz.underlying55 Ty.t54 hme) fun a ha=>?_
 rw [Nat.mul_one] at ha
 refine DP hpk ha rfl fun a ha=>?_
 refine D1 rfl (st_set ha rfl (ex_load1 ha Tryz.underlying22 rfl (hcy)) rfl fun a ha=>?_)
 refine ⟨fun h=>absurd h (by decide),?_⟩
 rw [bbv] at ha
 refine DP hpk ha rfl fun a ha=>?_
 replace ha:=ha.del 2
 refine DP hpk ha rfl fun a ha=>?_
 refine DD<|TN<|wp_ret ?_
 refine ret1 ha rfl ?_
 exact ⟨by rw [hyl],RLn.close hs hxs⟩
theorem refP_disp (hs : St W w (RefG W B p s::L)) (hw : WF' p s) (hpr : prOk p) (hsz : p.title.size≤1000000000) (hgs : mayGs B.gs) (hT : RdB W B.adT B.gs.table.length B.gs.table) : Calls Tryz.prog 80 #[.pointer (some ⟨B.pb,0,none⟩)] w fun r w'=>∃ ad c,r=.returned (.tuple #[.slice ad 128 c,.int .i64 (dispG p B.gs s).2])∧St W w' (Sl 5 1 ad 128 c (bc (dispG p B.gs s).1)::RefG W B p s::L):=by
 have hl8 : s.k.ls.length≤8:=by rw [hw.wc.ls]; exact hw.wc.n.2
 have hl0 : 0 < s.k.ls.length:=by rw [hw.wc.ls]; have:=hw.wc.n; omega
 have hhd:=hw.wc.headt
 have hfr : frontK s.k≤headK s.k:=hw.wc.frontt
 replace hs:=RefG.open hs
 refine calls_enter Tryz.func80 rfl Tryz.ntmps80 (Nat.le_of_ble_eq_true rfl) ?_
 intro a ha
 replace ha : Fr a 58 [(0,_)]:=ha
 refine WS<|WR ?_
 iterate 2 (refine S1 ha fun a ha=>?_)
 refine LN<|TN<|WS<|WS ?_
 refine DW (m:=11) (fun w'=>Rd w' B.pb 0 (rgC p B s.g)) [4,8] [0,1,2,5,6,7,3,8,4,9,10] Ty.mixed (pk_then (pk_then pk_body)) (fun hpk=>?_)
 replace hs:=hs.drew
 generalize w.drew=w at hs hpk ⊢
 have hC : Rd w B.pb 0 (rgC p B s.g):=hs.rdAll (b:=B.pb)
 iterate 6 (refine DP hpk ha rfl fun a ha=>?_)
 iterate 2 (refine DL hpk ha rfl (fun w hc=>hc 0 _ rfl) hC fun a ha=>?_)
 refine D1 rfl (st_call ha rfl Ty.c120 rfl (ref_head (hs.pick (RefS B.core s.k)) hw.wc) ?_); clear ha hs
 rintro e w ⟨rfl,hs⟩
 refine ⟨_,rfl,?_⟩
 intro a ha
 replace hC : (fun w'=>Rd w' B.pb 0 (rgC p B s.g)) w:=hs.rdAll (b:=B.pb)
 refine ⟨fun _=>hC,?_⟩
 refine D1 rfl (st_call ha rfl Ty.c111 rfl (ref_frontC hs hw.wc) ?_); clear ha hs
 rintro e w ⟨rfl,hs⟩
 refine ⟨_,rfl,?_⟩
 intro a ha
 refine ⟨fun h=>absurd h (by decide),?_⟩
 refine DP hpk ha rfl fun a ha=>?_
 refine DD<|TN ?_
 refine WI ha (fun hc0=>?_) (fun hc0=>?_)
 ·
  replace hs:=RefG.fold hs B p s
  refine WS<|WR ?_
  refine S1 ha fun a ha=>?_
  refine SK (st_call ha rfl Ty.c79 rfl (refP_conf hs hw) ?_); clear ha hs
  rintro e w ⟨ad,c,rfl,hs⟩
  refine ⟨_,rfl,?_⟩
  intro a ha
  iterate 2 (refine S1 ha fun a ha=>?_)
  iterate 2 (refine S1d ha fun a ha=>?_)
  refine LN<|TN<|wp_ret<|TR ?_
  refine ret2 ha rfl ?_
  refine ⟨ad,c,?_,?_⟩
  · rw [dispG,if_pos (by omega)]
  · rw [dispG,if_pos (by omega)]; exact hs
 ·
  refine WK<|TN<|WS ?_
  obtain ⟨A,hs⟩:=RefS.open (hs.pick (RefS B.core s.k))
  refine DW (m:=33) (fun w'=>Rd w' B.pb 0 (rgC p B s.g)∧Rd w' B.core.cb 0 (rcC s.k B.core A)) [7,11,12,16,17,18,19,23,27,28,29,31] [0,1,2,4,5,6,8,9,10,13,14,15,20,21,22,24,25,26,3,7,11,16,17,18,19,23,27,12,28,29,30,31,32] Ty.mixed (pk_then pk_body) (fun hpk=>?_)
  replace hs:=hs.drew
  generalize w.drew=w at hs hpk ⊢
  have hC : Rd w B.pb 0 (rgC p B s.g)∧Rd w B.core.cb 0 (rcC s.k B.core A):=⟨hs.rdAll (b:=B.pb),hs.rdAll (b:=B.core.cb)⟩
  iterate 18 (refine DP hpk ha rfl fun a ha=>?_)
  refine DH hpk ha rfl rfl (fun w hc=>ex_loadN ha Tryz.underlying33 rfl Ty.t33 (rgC_pr hc.1)) hC fun a ha=>?_
  refine DH hpk ha rfl rfl (fun w hc=>ex_loadN ha Tryz.underlying46 rfl Ty.t46 (rgC_st hc.1)) hC fun a ha=>?_
  iterate 2 (refine DL hpk ha rfl (fun w hc=>hc.1 0 _ rfl) hC fun a ha=>?_)
  refine DH hpk ha rfl rfl (fun w hc=>ex_nilCheck ha) hC fun a ha=>?_
  refine DH hpk ha rfl rfl (fun w hc=>ex_fieldAddr (k:=10) ha Tryz.underlying127 rfl Ty.t55 rfl) hC fun a ha=>?_
  refine DL hpk ha rfl (fun w hc=>hc.2 10 _ rfl) hC fun a ha=>?_
  refine DH hpk ha rfl rfl (fun w hc=>ex_loadN ha Tryz.underlying50 rfl Ty.t50 (rgC_by hc.1)) hC fun a ha=>?_
  refine DL hpk ha rfl (fun w hc=>hc.1 0 _ rfl) hC fun a ha=>?_
  refine D2 (i:=12) (j:=31) [28,29,30,31,32] [12,28,29,30,32] (by kernel_rfl) rfl rfl ?_ ?_
  ·
   refine st_call ha rfl Ty.c111 rfl (ref_frontA ((hs.pick (blk B.core.cb 127 (rcC s.k B.core A))).pick (RLn B.core.lb B.core.lo B.core.cL s.k.ls)) hw.wc) ?_; clear ha hs
   rintro e w ⟨rfl,hs⟩
   refine ⟨_,rfl,?_⟩
   intro a ha
   replace hC : (fun w'=>Rd w' B.pb 0 (rgC p B s.g)∧Rd w' B.core.cb 0 (rcC s.k B.core A)) w:=⟨hs.rdAll (b:=B.pb),hs.rdAll (b:=B.core.cb)⟩
   refine ⟨fun _=>hC,?_⟩
   refine D2 (i:=28) (j:=31) [29,30,31,32] [28,29,30,32] (by kernel_rfl) rfl rfl ?_ ?_
   ·
    refine st_call ha rfl Ty.c120 rfl (ref_headA ((hs.pick (blk B.core.cb 127 (rcC s.k B.core A))).pick (RLn B.core.lb B.core.lo B.core.cL s.k.ls)) hw.wc) ?_; clear ha hs
    rintro e w ⟨rfl,hs⟩
    refine ⟨_,rfl,?_⟩
    intro a ha
    replace hC : (fun w'=>Rd w' B.pb 0 (rgC p B s.g)∧Rd w' B.core.cb 0 (rcC s.k B.core A)) w:=⟨hs.rdAll (b:=B.pb),hs.rdAll (b:=B.core.cb)⟩
    refine ⟨fun _=>hC,?_⟩
    refine D2 (i:=29) (j:=31) [30,31,32] [29,30,32] (by kernel_rfl) rfl rfl ?_ ?_
    ·
     obtain ⟨xs,hxs,hs⟩:=RLn.open (hs.pick (RLn B.core.lb B.core.lo B.core.cL s.k.ls))
     have hxl : xs.length=s.k.ls.length:=by rw [← hxs,prx_len]
     rw [← hxl] at ha
     refine st_call ha rfl Ty.c24 rfl (ref_aheadG (xs:=xs) (b:=B.gs) (r:=0) (to:=headK s.k) (by decide) hs hgs (by omega) (by omega) (by rw [hxs]; exact hw.wc.ln) hhd (fun w' hw'=>St.rdXe hw') (fun w' hw'=>hT.old hw')) ?_; clear ha hs
     rintro e w ⟨adh,ch,X,rfl,⟨hFX,hX⟩,hs⟩
     refine ⟨_,rfl,?_⟩
     intro a ha
     replace hC : (fun w'=>Rd w' B.pb 0 (rgC p B s.g)∧Rd w' B.core.cb 0 (rcC s.k B.core A)) w:=⟨hs.rdAll (b:=B.pb),hs.rdAll (b:=B.core.cb)⟩
     refine ⟨fun _=>hC,?_⟩
     have hXf:=hX rfl
     subst hXf
     rw [aheadX_full,hxs] at hs
     rw [hxs] at ha
     have hal : (aheadL B.gs s.k.ls (headK s.k)).length=headK s.k - frontL s.k.ls:=aheadL_len _ _ _
     have hal1 : ∀ b∈aheadL B.gs s.k.ls (headK s.k),b.length≤1099511627776:=fun b hb=>by
       rw [aheadL,List.mem_map] at hb
       obtain ⟨i,_,rfl⟩:=hb
       rw [jointL_len,fullL,List.length_map]; omega
     obtain ⟨ys,hy1,hy2,hs⟩:=OwnBB.open hs
     refine D2 (i:=30) (j:=31) [31,32] [30,32] (by kernel_rfl) rfl rfl ?_ ?_
     ·
      refine st_call ha rfl Ty.c19 rfl (refFold_len (P:=aheadL B.gs s.k.ls (headK s.k)) (zs:=ys) (fr:=frontK s.k) (hs.pick (RoP W p B.adO B.cO)) hal hpr hsz (hw.gok hpr) ⟨by omega,hal1⟩ hy1 (by omega) (fun w' hw'=>St.rdX (hw'.sub (M:=Sl 22 1 adh (headK s.k - frontL s.k.ls) ch (ys.map bbv)::All bbo ys::[])))) ?_; clear ha hs
      rintro e w ⟨rfl,hgk,hs⟩
      refine ⟨_,rfl,?_⟩
      intro a ha
      refine ⟨fun h=>absurd h (by decide),?_⟩
      refine D1 rfl (st_alloc ha rfl hs Ty.t46 rfl fun b4 a w ha hs ho=>?_)
      (try replace hC:=hC.trans ho); clear ho
      replace hC : (fun w'=>Rd w' B.pb 0 (rgC p B s.g)∧Rd w' B.core.cb 0 (rcC s.k B.core A)) w:=⟨hs.rdAll (b:=B.pb),hs.rdAll (b:=B.core.cb)⟩
      refine ⟨fun _=>hC,?_⟩
      refine D1 rfl (st_storeAll ha rfl hs Ty.t46 ints_one (by rfl) fun a w ha hs=>?_)
      refine ⟨fun h=>absurd h (by decide),?_⟩
      refine DD ?_
      replace hs:=RLn.close (hs.sub (M:=Sl 54 1 (some ⟨B.core.lb,B.core.lo,none⟩) s.k.ls.length B.core.cL (xs.map bbv)::All bbo xs::blk b4 46 (ints .i32 32 (foldI p (frontK s.k) s.g (aheadL B.gs s.k.ls (headK s.k))))::blk B.pb 115 (rgC p B s.g)::RoP W p B.adO B.cO::blk B.core.cb 127 (rcC s.k B.core A)::blk B.core.hb 3 (heC s.k.ps)::blk B.core.ab 3 (haC s.k.ps)::blk B.core.wb 210 (rows wdC s.k.ps)::blk B.core.xb 4 (apC s.k.ps)::Sl 38 1 A.adM s.k.mr.length A.cM (mrC s.k.mr)::Sl 144 3 A.adE s.k.ev.length A.cE (rows rawC s.k.ev)::L)) hxs
      replace hs:=RefS.fold hs B.core s.k A
      refine TN<|WS ?_
      refine DW (m:=9) (fun w'=>Rd w' b4 0 (ints .i32 32 (foldI p (frontK s.k) s.g (aheadL B.gs s.k.ls (headK s.k))))∧Rd w' B.pb 0 (rgC p B s.g)) [1,5] [2,3,4,0,5,1,6,7,8] Ty.mixed (pk_then pk_body) (fun hpk=>?_)
      replace hs:=hs.drew
      generalize w.drew=w at hs hpk ⊢
      have hC : Rd w b4 0 (ints .i32 32 (foldI p (frontK s.k) s.g (aheadL B.gs s.k.ls (headK s.k))))∧Rd w B.pb 0 (rgC p B s.g):=⟨hs.rdAll (b:=b4),hs.rdAll (b:=B.pb)⟩
      iterate 3 (refine DP hpk ha rfl fun a ha=>?_)
      refine DH hpk ha rfl rfl (fun w hc=>ex_loadN ha Tryz.underlying46 rfl Ty.t46 (hc.1)) hC fun a ha=>?_
      refine DL hpk ha rfl (fun w hc=>hc.2 0 _ rfl) hC fun a ha=>?_
      refine D1 rfl (st_call ha rfl Ty.c18 rfl (refBytes_spec hs) ?_); clear ha hs
      rintro e w ⟨ad2,c2,rfl,hs⟩
      refine ⟨_,rfl,?_⟩
      intro a ha
      replace hC : (fun w'=>Rd w' b4 0 (ints .i32 32 (foldI p (frontK s.k) s.g (aheadL B.gs s.k.ls (headK s.k))))∧Rd w' B.pb 0 (rgC p B s.g)) w:=⟨hs.rdAll (b:=b4),hs.rdAll (b:=B.pb)⟩
      refine ⟨fun _=>hC,?_⟩
      refine D1 rfl (st_call ha rfl Ty.c120 rfl (ref_head (hs.pick (RefS B.core s.k)) hw.wc) ?_); clear ha hs
      rintro e w ⟨rfl,hs⟩
      refine ⟨_,rfl,?_⟩
      intro a ha
      refine ⟨fun h=>absurd h (by decide),?_⟩
      replace ha:=ha.del 2
      refine DP hpk ha rfl fun a ha=>?_
      replace ha:=ha.del 3
      refine DP hpk ha rfl fun a ha=>?_
      refine DD<|TN<|wp_ret ?_
      refine ret2 ha rfl ?_
      refine ⟨ad2,c2,?_,?_⟩
      · rw [dispG,if_neg (by omega)]
      · rw [dispG,if_neg (by omega)]
        exact (RefG.fold hs B p s).sub (M:=Sl 5 1 ad2 128 c2 (bc (gameB (foldI p (frontK s.k) s.g (aheadL B.gs s.k.ls (headK s.k)))))::RefG W B p s::L)
     ·
      refine st_alloc ha rfl hs Ty.t46 rfl fun b4 a w ha hs ho=>?_
      (try replace hC:=hC.trans ho); clear ho
      replace hC : (fun w'=>Rd w' B.pb 0 (rgC p B s.g)∧Rd w' B.core.cb 0 (rcC s.k B.core A)) w:=⟨hs.rdAll (b:=B.pb),hs.rdAll (b:=B.core.cb)⟩
      refine ⟨fun _=>hC,?_⟩
      refine D1 rfl (st_call ha rfl Ty.c19 rfl (refFold_len (P:=aheadL B.gs s.k.ls (headK s.k)) (zs:=ys) (fr:=frontK s.k) (hs.pick (RoP W p B.adO B.cO)) hal hpr hsz (hw.gok hpr) ⟨by omega,hal1⟩ hy1 (by omega) (fun w' hw'=>St.rdX (hw'.sub (M:=Sl 22 1 adh (headK s.k - frontL s.k.ls) ch (ys.map bbv)::All bbo ys::[])))) ?_); clear ha hs
      rintro e w ⟨rfl,hgk,hs⟩
      refine ⟨_,rfl,?_⟩
      intro a ha
      refine ⟨fun h=>absurd h (by decide),?_⟩
      refine D1 rfl (st_storeAll ha rfl hs Ty.t46 ints_one (by rfl) fun a w ha hs=>?_)
      refine ⟨fun h=>absurd h (by decide),?_⟩
      refine DD ?_
      replace hs:=RLn.close (hs.sub (M:=Sl 54 1 (some ⟨B.core.lb,B.core.lo,none⟩) s.k.ls.length B.core.cL (xs.map bbv)::All bbo xs::blk b4 46 (ints .i32 32 (foldI p (frontK s.k) s.g (aheadL B.gs s.k.ls (headK s.k))))::blk B.pb 115 (rgC p B s.g)::RoP W p B.adO B.cO::blk B.core.cb 127 (rcC s.k B.core A)::blk B.core.hb 3 (heC s.k.ps)::blk B.core.ab 3 (haC s.k.ps)::blk B.core.wb 210 (rows wdC s.k.ps)::blk B.core.xb 4 (apC s.k.ps)::Sl 38 1 A.adM s.k.mr.length A.cM (mrC s.k.mr)::Sl 144 3 A.adE s.k.ev.length A.cE (rows rawC s.k.ev)::L)) hxs
      replace hs:=RefS.fold hs B.core s.k A
      refine TN<|WS ?_
      refine DW (m:=9) (fun w'=>Rd w' b4 0 (ints .i32 32 (foldI p (frontK s.k) s.g (aheadL B.gs s.k.ls (headK s.k))))∧Rd w' B.pb 0 (rgC p B s.g)) [1,5] [2,3,4,0,5,1,6,7,8] Ty.mixed (pk_then pk_body) (fun hpk=>?_)
      replace hs:=hs.drew
      generalize w.drew=w at hs hpk ⊢
      have hC : Rd w b4 0 (ints .i32 32 (foldI p (frontK s.k) s.g (aheadL B.gs s.k.ls (headK s.k))))∧Rd w B.pb 0 (rgC p B s.g):=⟨hs.rdAll (b:=b4),hs.rdAll (b:=B.pb)⟩
      iterate 3 (refine DP hpk ha rfl fun a ha=>?_)
      refine DH hpk ha rfl rfl (fun w hc=>ex_loadN ha Tryz.underlying46 rfl Ty.t46 (hc.1)) hC fun a ha=>?_
      refine DL hpk ha rfl (fun w hc=>hc.2 0 _ rfl) hC fun a ha=>?_
      refine D1 rfl (st_call ha rfl Ty.c18 rfl (refBytes_spec hs) ?_); clear ha hs
      rintro e w ⟨ad2,c2,rfl,hs⟩
      refine ⟨_,rfl,?_⟩
      intro a ha
      replace hC : (fun w'=>Rd w' b4 0 (ints .i32 32 (foldI p (frontK s.k) s.g (aheadL B.gs s.k.ls (headK s.k))))∧Rd w' B.pb 0 (rgC p B s.g)) w:=⟨hs.rdAll (b:=b4),hs.rdAll (b:=B.pb)⟩
      refine ⟨fun _=>hC,?_⟩
      refine D1 rfl (st_call ha rfl Ty.c120 rfl (ref_head (hs.pick (RefS B.core s.k)) hw.wc) ?_); clear ha hs
      rintro e w ⟨rfl,hs⟩
      refine ⟨_,rfl,?_⟩
      intro a ha
      refine ⟨fun h=>absurd h (by decide),?_⟩
      replace ha:=ha.del 2
      refine DP hpk ha rfl fun a ha=>?_
      replace ha:=ha.del 3
      refine DP hpk ha rfl fun a ha=>?_
      refine DD<|TN<|wp_ret ?_
      refine ret2 ha rfl ?_
      refine ⟨ad2,c2,?_,?_⟩
      · rw [dispG,if_neg (by omega)]
      · rw [dispG,if_neg (by omega)]
        exact (RefG.fold hs B p s).sub (M:=Sl 5 1 ad2 128 c2 (bc (gameB (foldI p (frontK s.k) s.g (aheadL B.gs s.k.ls (headK s.k)))))::RefG W B p s::L)
    ·
     refine st_alloc ha rfl hs Ty.t46 rfl fun b4 a w ha hs ho=>?_
     (try replace hC:=hC.trans ho); clear ho
     replace hC : (fun w'=>Rd w' B.pb 0 (rgC p B s.g)∧Rd w' B.core.cb 0 (rcC s.k B.core A)) w:=⟨hs.rdAll (b:=B.pb),hs.rdAll (b:=B.core.cb)⟩
     refine ⟨fun _=>hC,?_⟩
     obtain ⟨xs,hxs,hs⟩:=RLn.open (hs.pick (RLn B.core.lb B.core.lo B.core.cL s.k.ls))
     have hxl : xs.length=s.k.ls.length:=by rw [← hxs,prx_len]
     rw [← hxl] at ha
     refine D1 rfl (st_call ha rfl Ty.c24 rfl (ref_aheadG (xs:=xs) (b:=B.gs) (r:=0) (to:=headK s.k) (by decide) hs hgs (by omega) (by omega) (by rw [hxs]; exact hw.wc.ln) hhd (fun w' hw'=>St.rdXe hw') (fun w' hw'=>hT.old hw')) ?_); clear ha hs
     rintro e w ⟨adh,ch,X,rfl,⟨hFX,hX⟩,hs⟩
     refine ⟨_,rfl,?_⟩
     intro a ha
     replace hC : (fun w'=>Rd w' B.pb 0 (rgC p B s.g)∧Rd w' B.core.cb 0 (rcC s.k B.core A)) w:=⟨hs.rdAll (b:=B.pb),hs.rdAll (b:=B.core.cb)⟩
     refine ⟨fun _=>hC,?_⟩
     have hXf:=hX rfl
     subst hXf
     rw [aheadX_full,hxs] at hs
     rw [hxs] at ha
     have hal : (aheadL B.gs s.k.ls (headK s.k)).length=headK s.k - frontL s.k.ls:=aheadL_len _ _ _
     have hal1 : ∀ b∈aheadL B.gs s.k.ls (headK s.k),b.length≤1099511627776:=fun b hb=>by
       rw [aheadL,List.mem_map] at hb
       obtain ⟨i,_,rfl⟩:=hb
       rw [jointL_len,fullL,List.length_map]; omega
     obtain ⟨ys,hy1,hy2,hs⟩:=OwnBB.open hs
     refine D1 rfl (st_call ha rfl Ty.c19 rfl (refFold_len (P:=aheadL B.gs s.k.ls (headK s.k)) (zs:=ys) (fr:=frontK s.k) (hs.pick (RoP W p B.adO B.cO)) hal hpr hsz (hw.gok hpr) ⟨by omega,hal1⟩ hy1 (by omega) (fun w' hw'=>St.rdX (hw'.sub (M:=Sl 22 1 adh (headK s.k - frontL s.k.ls) ch (ys.map bbv)::All bbo ys::[])))) ?_); clear ha hs
     rintro e w ⟨rfl,hgk,hs⟩
     refine ⟨_,rfl,?_⟩
     intro a ha
     refine ⟨fun h=>absurd h (by decide),?_⟩
     refine D1 rfl (st_storeAll ha rfl hs Ty.t46 ints_one (by rfl) fun a w ha hs=>?_)
     refine ⟨fun h=>absurd h (by decide),?_⟩
     refine DD ?_
     replace hs:=RLn.close (hs.sub (M:=Sl 54 1 (some ⟨B.core.lb,B.core.lo,none⟩) s.k.ls.length B.core.cL (xs.map bbv)::All bbo xs::blk b4 46 (ints .i32 32 (foldI p (frontK s.k) s.g (aheadL B.gs s.k.ls (headK s.k))))::blk B.pb 115 (rgC p B s.g)::RoP W p B.adO B.cO::blk B.core.cb 127 (rcC s.k B.core A)::blk B.core.hb 3 (heC s.k.ps)::blk B.core.ab 3 (haC s.k.ps)::blk B.core.wb 210 (rows wdC s.k.ps)::blk B.core.xb 4 (apC s.k.ps)::Sl 38 1 A.adM s.k.mr.length A.cM (mrC s.k.mr)::Sl 144 3 A.adE s.k.ev.length A.cE (rows rawC s.k.ev)::L)) hxs
     replace hs:=RefS.fold hs B.core s.k A
     refine TN<|WS ?_
     refine DW (m:=9) (fun w'=>Rd w' b4 0 (ints .i32 32 (foldI p (frontK s.k) s.g (aheadL B.gs s.k.ls (headK s.k))))∧Rd w' B.pb 0 (rgC p B s.g)) [1,5] [2,3,4,0,5,1,6,7,8] Ty.mixed (pk_then pk_body) (fun hpk=>?_)
     replace hs:=hs.drew
     generalize w.drew=w at hs hpk ⊢
     have hC : Rd w b4 0 (ints .i32 32 (foldI p (frontK s.k) s.g (aheadL B.gs s.k.ls (headK s.k))))∧Rd w B.pb 0 (rgC p B s.g):=⟨hs.rdAll (b:=b4),hs.rdAll (b:=B.pb)⟩
     iterate 3 (refine DP hpk ha rfl fun a ha=>?_)
     refine DH hpk ha rfl rfl (fun w hc=>ex_loadN ha Tryz.underlying46 rfl Ty.t46 (hc.1)) hC fun a ha=>?_
     refine DL hpk ha rfl (fun w hc=>hc.2 0 _ rfl) hC fun a ha=>?_
     refine D1 rfl (st_call ha rfl Ty.c18 rfl (refBytes_spec hs) ?_); clear ha hs
     rintro e w ⟨ad2,c2,rfl,hs⟩
     refine ⟨_,rfl,?_⟩
     intro a ha
     replace hC : (fun w'=>Rd w' b4 0 (ints .i32 32 (foldI p (frontK s.k) s.g (aheadL B.gs s.k.ls (headK s.k))))∧Rd w' B.pb 0 (rgC p B s.g)) w:=⟨hs.rdAll (b:=b4),hs.rdAll (b:=B.pb)⟩
     refine ⟨fun _=>hC,?_⟩
     refine D1 rfl (st_call ha rfl Ty.c120 rfl (ref_head (hs.pick (RefS B.core s.k)) hw.wc) ?_); clear ha hs
     rintro e w ⟨rfl,hs⟩
     refine ⟨_,rfl,?_⟩
     intro a ha
     refine ⟨fun h=>absurd h (by decide),?_⟩
     replace ha:=ha.del 2
     refine DP hpk ha rfl fun a ha=>?_
     replace ha:=ha.del 3
     refine DP hpk ha rfl fun a ha=>?_
     refine DD<|TN<|wp_ret ?_
     refine ret2 ha rfl ?_
     refine ⟨ad2,c2,?_,?_⟩
     · rw [dispG,if_neg (by omega)]
     · rw [dispG,if_neg (by omega)]
       exact (RefG.fold hs B p s).sub (M:=Sl 5 1 ad2 128 c2 (bc (gameB (foldI p (frontK s.k) s.g (aheadL B.gs s.k.ls (headK s.k)))))::RefG W B p s::L)
   ·
    refine st_alloc ha rfl hs Ty.t46 rfl fun b4 a w ha hs ho=>?_
    (try replace hC:=hC.trans ho); clear ho
    replace hC : (fun w'=>Rd w' B.pb 0 (rgC p B s.g)∧Rd w' B.core.cb 0 (rcC s.k B.core A)) w:=⟨hs.rdAll (b:=B.pb),hs.rdAll (b:=B.core.cb)⟩
    refine ⟨fun _=>hC,?_⟩
    refine D1 rfl (st_call ha rfl Ty.c120 rfl (ref_headA ((hs.pick (blk B.core.cb 127 (rcC s.k B.core A))).pick (RLn B.core.lb B.core.lo B.core.cL s.k.ls)) hw.wc) ?_); clear ha hs
    rintro e w ⟨rfl,hs⟩
    refine ⟨_,rfl,?_⟩
    intro a ha
    replace hC : (fun w'=>Rd w' B.pb 0 (rgC p B s.g)∧Rd w' B.core.cb 0 (rcC s.k B.core A)) w:=⟨hs.rdAll (b:=B.pb),hs.rdAll (b:=B.core.cb)⟩
    refine ⟨fun _=>hC,?_⟩
    obtain ⟨xs,hxs,hs⟩:=RLn.open (hs.pick (RLn B.core.lb B.core.lo B.core.cL s.k.ls))
    have hxl : xs.length=s.k.ls.length:=by rw [← hxs,prx_len]
    rw [← hxl] at ha
    refine D1 rfl (st_call ha rfl Ty.c24 rfl (ref_aheadG (xs:=xs) (b:=B.gs) (r:=0) (to:=headK s.k) (by decide) hs hgs (by omega) (by omega) (by rw [hxs]; exact hw.wc.ln) hhd (fun w' hw'=>St.rdXe hw') (fun w' hw'=>hT.old hw')) ?_); clear ha hs
    rintro e w ⟨adh,ch,X,rfl,⟨hFX,hX⟩,hs⟩
    refine ⟨_,rfl,?_⟩
    intro a ha
    replace hC : (fun w'=>Rd w' B.pb 0 (rgC p B s.g)∧Rd w' B.core.cb 0 (rcC s.k B.core A)) w:=⟨hs.rdAll (b:=B.pb),hs.rdAll (b:=B.core.cb)⟩
    refine ⟨fun _=>hC,?_⟩
    have hXf:=hX rfl
    subst hXf
    rw [aheadX_full,hxs] at hs
    rw [hxs] at ha
    have hal : (aheadL B.gs s.k.ls (headK s.k)).length=headK s.k - frontL s.k.ls:=aheadL_len _ _ _
    have hal1 : ∀ b∈aheadL B.gs s.k.ls (headK s.k),b.length≤1099511627776:=fun b hb=>by
      rw [aheadL,List.mem_map] at hb
      obtain ⟨i,_,rfl⟩:=hb
      rw [jointL_len,fullL,List.length_map]; omega
    obtain ⟨ys,hy1,hy2,hs⟩:=OwnBB.open hs
    refine D1 rfl (st_call ha rfl Ty.c19 rfl (refFold_len (P:=aheadL B.gs s.k.ls (headK s.k)) (zs:=ys) (fr:=frontK s.k) (hs.pick (RoP W p B.adO B.cO)) hal hpr hsz (hw.gok hpr) ⟨by omega,hal1⟩ hy1 (by omega) (fun w' hw'=>St.rdX (hw'.sub (M:=Sl 22 1 adh (headK s.k - frontL s.k.ls) ch (ys.map bbv)::All bbo ys::[])))) ?_); clear ha hs
    rintro e w ⟨rfl,hgk,hs⟩
    refine ⟨_,rfl,?_⟩
    intro a ha
    refine ⟨fun h=>absurd h (by decide),?_⟩
    refine D1 rfl (st_storeAll ha rfl hs Ty.t46 ints_one (by rfl) fun a w ha hs=>?_)
    refine ⟨fun h=>absurd h (by decide),?_⟩
    refine DD ?_
    replace hs:=RLn.close (hs.sub (M:=Sl 54 1 (some ⟨B.core.lb,B.core.lo,none⟩) s.k.ls.length B.core.cL (xs.map bbv)::All bbo xs::blk b4 46 (ints .i32 32 (foldI p (frontK s.k) s.g (aheadL B.gs s.k.ls (headK s.k))))::blk B.pb 115 (rgC p B s.g)::RoP W p B.adO B.cO::blk B.core.cb 127 (rcC s.k B.core A)::blk B.core.hb 3 (heC s.k.ps)::blk B.core.ab 3 (haC s.k.ps)::blk B.core.wb 210 (rows wdC s.k.ps)::blk B.core.xb 4 (apC s.k.ps)::Sl 38 1 A.adM s.k.mr.length A.cM (mrC s.k.mr)::Sl 144 3 A.adE s.k.ev.length A.cE (rows rawC s.k.ev)::L)) hxs
    replace hs:=RefS.fold hs B.core s.k A
    refine TN<|WS ?_
    refine DW (m:=9) (fun w'=>Rd w' b4 0 (ints .i32 32 (foldI p (frontK s.k) s.g (aheadL B.gs s.k.ls (headK s.k))))∧Rd w' B.pb 0 (rgC p B s.g)) [1,5] [2,3,4,0,5,1,6,7,8] Ty.mixed (pk_then pk_body) (fun hpk=>?_)
    replace hs:=hs.drew
    generalize w.drew=w at hs hpk ⊢
    have hC : Rd w b4 0 (ints .i32 32 (foldI p (frontK s.k) s.g (aheadL B.gs s.k.ls (headK s.k))))∧Rd w B.pb 0 (rgC p B s.g):=⟨hs.rdAll (b:=b4),hs.rdAll (b:=B.pb)⟩
    iterate 3 (refine DP hpk ha rfl fun a ha=>?_)
    refine DH hpk ha rfl rfl (fun w hc=>ex_loadN ha Tryz.underlying46 rfl Ty.t46 (hc.1)) hC fun a ha=>?_
    refine DL hpk ha rfl (fun w hc=>hc.2 0 _ rfl) hC fun a ha=>?_
    refine D1 rfl (st_call ha rfl Ty.c18 rfl (refBytes_spec hs) ?_); clear ha hs
    rintro e w ⟨ad2,c2,rfl,hs⟩
    refine ⟨_,rfl,?_⟩
    intro a ha
    replace hC : (fun w'=>Rd w' b4 0 (ints .i32 32 (foldI p (frontK s.k) s.g (aheadL B.gs s.k.ls (headK s.k))))∧Rd w' B.pb 0 (rgC p B s.g)) w:=⟨hs.rdAll (b:=b4),hs.rdAll (b:=B.pb)⟩
    refine ⟨fun _=>hC,?_⟩
    refine D1 rfl (st_call ha rfl Ty.c120 rfl (ref_head (hs.pick (RefS B.core s.k)) hw.wc) ?_); clear ha hs
    rintro e w ⟨rfl,hs⟩
    refine ⟨_,rfl,?_⟩
    intro a ha
    refine ⟨fun h=>absurd h (by decide),?_⟩
    replace ha:=ha.del 2
    refine DP hpk ha rfl fun a ha=>?_
    replace ha:=ha.del 3
    refine DP hpk ha rfl fun a ha=>?_
    refine DD<|TN<|wp_ret ?_
    refine ret2 ha rfl ?_
    refine ⟨ad2,c2,?_,?_⟩
    · rw [dispG,if_neg (by omega)]
    · rw [dispG,if_neg (by omega)]
      exact (RefG.fold hs B p s).sub (M:=Sl 5 1 ad2 128 c2 (bc (gameB (foldI p (frontK s.k) s.g (aheadL B.gs s.k.ls (headK s.k)))))::RefG W B p s::L)
  ·
   refine st_alloc ha rfl hs Ty.t46 rfl fun b4 a w ha hs ho=>?_
   (try replace hC:=hC.trans ho); clear ho
   replace hC : (fun w'=>Rd w' B.pb 0 (rgC p B s.g)∧Rd w' B.core.cb 0 (rcC s.k B.core A)) w:=⟨hs.rdAll (b:=B.pb),hs.rdAll (b:=B.core.cb)⟩
   refine ⟨fun _=>hC,?_⟩
   refine D1 rfl (st_call ha rfl Ty.c111 rfl (ref_frontA ((hs.pick (blk B.core.cb 127 (rcC s.k B.core A))).pick (RLn B.core.lb B.core.lo B.core.cL s.k.ls)) hw.wc) ?_); clear ha hs
   rintro e w ⟨rfl,hs⟩
   refine ⟨_,rfl,?_⟩
   intro a ha
   replace hC : (fun w'=>Rd w' B.pb 0 (rgC p B s.g)∧Rd w' B.core.cb 0 (rcC s.k B.core A)) w:=⟨hs.rdAll (b:=B.pb),hs.rdAll (b:=B.core.cb)⟩
   refine ⟨fun _=>hC,?_⟩
   refine D1 rfl (st_call ha rfl Ty.c120 rfl (ref_headA ((hs.pick (blk B.core.cb 127 (rcC s.k B.core A))).pick (RLn B.core.lb B.core.lo B.core.cL s.k.ls)) hw.wc) ?_); clear ha hs
   rintro e w ⟨rfl,hs⟩
   refine ⟨_,rfl,?_⟩
   intro a ha
   replace hC : (fun w'=>Rd w' B.pb 0 (rgC p B s.g)∧Rd w' B.core.cb 0 (rcC s.k B.core A)) w:=⟨hs.rdAll (b:=B.pb),hs.rdAll (b:=B.core.cb)⟩
   refine ⟨fun _=>hC,?_⟩
   obtain ⟨xs,hxs,hs⟩:=RLn.open (hs.pick (RLn B.core.lb B.core.lo B.core.cL s.k.ls))
   have hxl : xs.length=s.k.ls.length:=by rw [← hxs,prx_len]
   rw [← hxl] at ha
   refine D1 rfl (st_call ha rfl Ty.c24 rfl (ref_aheadG (xs:=xs) (b:=B.gs) (r:=0) (to:=headK s.k) (by decide) hs hgs (by omega) (by omega) (by rw [hxs]; exact hw.wc.ln) hhd (fun w' hw'=>St.rdXe hw') (fun w' hw'=>hT.old hw')) ?_); clear ha hs
   rintro e w ⟨adh,ch,X,rfl,⟨hFX,hX⟩,hs⟩
   refine ⟨_,rfl,?_⟩
   intro a ha
   replace hC : (fun w'=>Rd w' B.pb 0 (rgC p B s.g)∧Rd w' B.core.cb 0 (rcC s.k B.core A)) w:=⟨hs.rdAll (b:=B.pb),hs.rdAll (b:=B.core.cb)⟩
   refine ⟨fun _=>hC,?_⟩
   have hXf:=hX rfl
   subst hXf
   rw [aheadX_full,hxs] at hs
   rw [hxs] at ha
   have hal : (aheadL B.gs s.k.ls (headK s.k)).length=headK s.k - frontL s.k.ls:=aheadL_len _ _ _
   have hal1 : ∀ b∈aheadL B.gs s.k.ls (headK s.k),b.length≤1099511627776:=fun b hb=>by
     rw [aheadL,List.mem_map] at hb
     obtain ⟨i,_,rfl⟩:=hb
     rw [jointL_len,fullL,List.length_map]; omega
   obtain ⟨ys,hy1,hy2,hs⟩:=OwnBB.open hs
   refine D1 rfl (st_call ha rfl Ty.c19 rfl (refFold_len (P:=aheadL B.gs s.k.ls (headK s.k)) (zs:=ys) (fr:=frontK s.k) (hs.pick (RoP W p B.adO B.cO)) hal hpr hsz (hw.gok hpr) ⟨by omega,hal1⟩ hy1 (by omega) (fun w' hw'=>St.rdX (hw'.sub (M:=Sl 22 1 adh (headK s.k - frontL s.k.ls) ch (ys.map bbv)::All bbo ys::[])))) ?_); clear ha hs
   rintro e w ⟨rfl,hgk,hs⟩
   refine ⟨_,rfl,?_⟩
   intro a ha
   refine ⟨fun h=>absurd h (by decide),?_⟩
   refine D1 rfl (st_storeAll ha rfl hs Ty.t46 ints_one (by rfl) fun a w ha hs=>?_)
   refine ⟨fun h=>absurd h (by decide),?_⟩
   refine DD ?_
   replace hs:=RLn.close (hs.sub (M:=Sl 54 1 (some ⟨B.core.lb,B.core.lo,none⟩) s.k.ls.length B.core.cL (xs.map bbv)::All bbo xs::blk b4 46 (ints .i32 32 (foldI p (frontK s.k) s.g (aheadL B.gs s.k.ls (headK s.k))))::blk B.pb 115 (rgC p B s.g)::RoP W p B.adO B.cO::blk B.core.cb 127 (rcC s.k B.core A)::blk B.core.hb 3 (heC s.k.ps)::blk B.core.ab 3 (haC s.k.ps)::blk B.core.wb 210 (rows wdC s.k.ps)::blk B.core.xb 4 (apC s.k.ps)::Sl 38 1 A.adM s.k.mr.length A.cM (mrC s.k.mr)::Sl 144 3 A.adE s.k.ev.length A.cE (rows rawC s.k.ev)::L)) hxs
   replace hs:=RefS.fold hs B.core s.k A
   refine TN<|WS ?_
   refine DW (m:=9) (fun w'=>Rd w' b4 0 (ints .i32 32 (foldI p (frontK s.k) s.g (aheadL B.gs s.k.ls (headK s.k))))∧Rd w' B.pb 0 (rgC p B s.g)) [1,5] [2,3,4,0,5,1,6,7,8] Ty.mixed (pk_then pk_body) (fun hpk=>?_)
   replace hs:=hs.drew
   generalize w.drew=w at hs hpk ⊢
   have hC : Rd w b4 0 (ints .i32 32 (foldI p (frontK s.k) s.g (aheadL B.gs s.k.ls (headK s.k))))∧Rd w B.pb 0 (rgC p B s.g):=⟨hs.rdAll (b:=b4),hs.rdAll (b:=B.pb)⟩
   iterate 3 (refine DP hpk ha rfl fun a ha=>?_)
   refine DH hpk ha rfl rfl (fun w hc=>ex_loadN ha Tryz.underlying46 rfl Ty.t46 (hc.1)) hC fun a ha=>?_
   refine DL hpk ha rfl (fun w hc=>hc.2 0 _ rfl) hC fun a ha=>?_
   refine D1 rfl (st_call ha rfl Ty.c18 rfl (refBytes_spec hs) ?_); clear ha hs
   rintro e w ⟨ad2,c2,rfl,hs⟩
   refine ⟨_,rfl,?_⟩
   intro a ha
   replace hC : (fun w'=>Rd w' b4 0 (ints .i32 32 (foldI p (frontK s.k) s.g (aheadL B.gs s.k.ls (headK s.k))))∧Rd w' B.pb 0 (rgC p B s.g)) w:=⟨hs.rdAll (b:=b4),hs.rdAll (b:=B.pb)⟩
   refine ⟨fun _=>hC,?_⟩
   refine D1 rfl (st_call ha rfl Ty.c120 rfl (ref_head (hs.pick (RefS B.core s.k)) hw.wc) ?_); clear ha hs
   rintro e w ⟨rfl,hs⟩
   refine ⟨_,rfl,?_⟩
   intro a ha
   refine ⟨fun h=>absurd h (by decide),?_⟩
   replace ha:=ha.del 2
   refine DP hpk ha rfl fun a ha=>?_
   replace ha:=ha.del 3
   refine DP hpk ha rfl fun a ha=>?_
   refine DD<|TN<|wp_ret ?_
   refine ret2 ha rfl ?_
   refine ⟨ad2,c2,?_,?_⟩
   · rw [dispG,if_neg (by omega)]
   · rw [dispG,if_neg (by omega)]
     exact (RefG.fold hs B p s).sub (M:=Sl 5 1 ad2 128 c2 (bc (gameB (foldI p (frontK s.k) s.g (aheadL B.gs s.k.ls (headK s.k)))))::RefG W B p s::L)
theorem tPlayer : TI Tryz.prog 115 (.agg ((.pointer none::.string ⟨#[]⟩::.slice none 0 0::.int .i64 0::.int .i64 0::.slice none 0 0::.int .i32 0::.int .i32 0::.int .i32 0::.int .i32 0::.int .i32 0::.int .i32 0::.int .i32 0::.int .i32 0::.int .i32 0::.int .i32 0::.int .i32 0::.int .i32 0::.int .i32 0::.int .i32 0::.int .i32 0::.int .i32 0::.int .i32 0::.int .i32 0::.int .i32 0::.int .i32 0::.int .i32 0::.int .i32 0::.int .i32 0::.int .i32 0::.int .i32 0::.int .i32 0::.int .i32 0::.int .i32 0::.int .i32 0::.int .i32 0::.int .i32 0::.int .i32 0::[]) : List Value).toArray) 38 216:=Ty.t115
theorem refP_new {n me delay window : Nat} {id guess order branches workers room : Int} (hs : St W w (RoP W p adP cP::L)) (hm : mayCf ⟨n,me,id,delay,window,guess,order,branches,workers,room⟩) (hpr : prOk p) (hsz : p.title.size≤1000000000) :
   Calls Tryz.prog 32 #[.agg (cfC ⟨n,me,id,delay,window,guess,order,branches,workers,room⟩).toArray,.agg (prV p adP cP).toArray,.slice adT tb.length cT] w fun r w'=>∃ B : RgB,r=.returned (.pointer (some ⟨B.pb,0,none⟩))∧(B.gs=⟨guess,order,tb⟩∧B.adT=adT)∧St W w' (RefG W B p (newP p ⟨n,me,id,delay,window,guess,order,branches,workers,room⟩)::L):=by
 refine calls_enter Tryz.func32 rfl Tryz.ntmps32 (Nat.le_of_ble_eq_true rfl) ?_
 intro a ha
 replace ha : Fr a 22 [(0,_),(1,_),(2,_)]:=ha
 refine WS<|WR ?_
 refine SK (st_box ha rfl hs rfl fun b3 a w ha hs ho=>?_)
 clear ho
 change St W w (blk b3 30 (cfC ⟨n,me,id,delay,window,guess,order,branches,workers,room⟩)::_) at hs
 refine SK (st_box ha rfl hs rfl fun b4 a w ha hs ho=>?_)
 clear ho
 change St W w (blk b4 33 [.string p.title,.slice adP p.ops.length cP]::_) at hs
 refine S1 ha fun a ha=>?_
 refine LN<|TN<|WS ?_
 refine DW (m:=12) (fun w'=>Rd w' b3 0 (cfC ⟨n,me,id,delay,window,guess,order,branches,workers,room⟩)∧Rd w' b4 0 [.string p.title,.slice adP p.ops.length cP]) [1,2,4,6,8] [3,5,7,0,2,4,6,8,1,9,10,11] Ty.mixed (pk_then pk_body) (fun hpk=>?_)
 replace hs:=hs.drew
 generalize w.drew=w at hs hpk ⊢
 have hC : Rd w b3 0 (cfC ⟨n,me,id,delay,window,guess,order,branches,workers,room⟩)∧Rd w b4 0 [.string p.title,.slice adP p.ops.length cP]:=⟨hs.rdAll (b:=b3),hs.rdAll (b:=b4)⟩
 iterate 3 (refine DP hpk ha rfl fun a ha=>?_)
 refine DH hpk ha rfl rfl (fun w hc=>ex_loadN ha Tryz.underlying30 rfl Ty.t30 (hc.1)) hC fun a ha=>?_
 refine DH hpk ha rfl rfl (fun w hc=>ex_loadN ha Tryz.underlying33 rfl Ty.t33 (hc.2)) hC fun a ha=>?_
 refine DL hpk ha rfl (fun w hc=>hc.1 5 _ rfl) hC fun a ha=>?_
 refine DL hpk ha rfl (fun w hc=>hc.1 6 _ rfl) hC fun a ha=>?_
 refine DH hpk ha rfl rfl (fun w hc=>ex_build ha Ty.b50 Ty.t50 rfl) hC fun a ha=>?_
 refine D1 rfl (st_call ha rfl Ty.c67 rfl (ref_new hs hm) ?_); clear ha hs
 rintro e w ⟨Bc,rfl,hs⟩
 refine ⟨_,rfl,?_⟩
 intro a ha
 replace hC : (fun w'=>Rd w' b3 0 (cfC ⟨n,me,id,delay,window,guess,order,branches,workers,room⟩)∧Rd w' b4 0 [.string p.title,.slice adP p.ops.length cP]) w:=⟨hs.rdAll (b:=b3),hs.rdAll (b:=b4)⟩
 refine ⟨fun _=>hC,?_⟩
 refine DQ hpk ha rfl rfl (fun w=>ex_build ha Ty.b115 tPlayer rfl) fun a ha=>?_
 refine D1 rfl (st_box ha rfl hs rfl fun b18 a w ha hs ho=>?_)
 (try replace hC:=hC.trans ho); clear ho
 refine ⟨fun h=>absurd h (by decide),?_⟩
 change St W w (blk b18 115 (rgC p ⟨b18,Bc,adP,cP,adT,cT,⟨guess,order,tb⟩⟩ zeroG)::_) at hs
 refine DP hpk ha rfl fun a ha=>?_
 refine DD ?_
 replace hs:=RefG.fold hs ⟨b18,Bc,adP,cP,adT,cT,⟨guess,order,tb⟩⟩ p ⟨newK ⟨n,me,id,delay,window,guess,order,branches,workers,room⟩,zeroG⟩
 refine TN<|WS<|WR ?_
 refine S1 ha fun a ha=>?_
 refine SK (st_call ha rfl Ty.c68 rfl (ref_plays hs (newP_ok hm) hpr hsz) ?_); clear ha hs
 rintro e w ⟨rfl,hs⟩
 refine ⟨_,rfl,?_⟩
 intro a ha
 refine LN<|TN<|WS<|WR ?_
 refine S1 ha fun a ha=>?_
 refine S1d ha fun a ha=>?_
 refine LN<|TN<|wp_ret ?_
 refine ret1 ha rfl ?_
 have h9 : St W w (RefG W ⟨b18,Bc,adP,cP,adT,cT,⟨guess,order,tb⟩⟩ p (newP p ⟨n,me,id,delay,window,guess,order,branches,workers,room⟩)::_):=hs
 exact ⟨⟨b18,Bc,adP,cP,adT,cT,⟨guess,order,tb⟩⟩,rfl,⟨rfl,rfl⟩,h9.sub⟩
end
end Go.Proofs.YtagpkhbkdbaigaaGreat
