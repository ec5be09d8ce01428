/- Packets out of bytes: quintainref12.Unpacket. -/
import Derived.Test.YtagpkhbkdbaigaaGreatPkt3
namespace Go.Proofs.YtagpkhbkdbaigaaGreat
open Go.RowKit
set_option linter.unusedVariables false
set_option linter.unusedSimpArgs false
set_option maxRecDepth 10000
set_option synthInstance.maxSize 4000
set_option synthInstance.maxHeartbeats 400000
def fldAt (q : Pk) : Nat→Int
 | 0=>q.id
 | 1=>q.first
 | 2=>q.ack
 | _=>q.frame
def restAt (q : Pk) : Nat→List UInt8
 | 0=>midPk q
 | 1=>numsPk q
 | 2=>putL (zz q.ack)++(putL (zz q.frame)++tailPk q)
 | 3=>putL (zz q.frame)++tailPk q
 | _=>tailPk q
theorem decP_kind {bs : List UInt8} {q : Pk} (h : decP bs q) : (q.kind=1∧frP q.first∧frP q.ack∧frP q.frame∧q.press.length≤32∧numsPk q=putL (zz q.first)++(putL (zz q.ack)++(putL (zz q.frame)++tailPk q))) ∨
   (q.kind=2∧q.first=0∧q.ack=0∧q.frame=0∧q.press=[]∧q.sum=0):=by
 rcases h.1.2.2.2.2 with k | k
 · exact .inl ⟨k.1,k.2.1,k.2.2.1,k.2.2.2.1,k.2.2.2.2,by rw [numsPk,if_pos k.1]⟩
 · exact .inr ⟨k.1,k.2.1,k.2.2.1,k.2.2.2.1,List.eq_nil_of_length_eq_zero k.2.2.2.2.1,k.2.2.2.2.2⟩
theorem rest_step {bs : List UInt8} {q : Pk} {n i : Nat} (h : decP bs q) (hn : n=if (bs.getD 0 0).toNat=1 then 4 else 1) (hi : i < n) :
   restAt q i=putL (zz (fldAt q i))++restAt q (i+1)∧0≤fldAt q i∧fldAt q i≤1099511627776:=by
 have h0:=(decP_head h).1.1
 have hid:=h.1.2.2.2.1
 rcases decP_kind h with k | k
 · obtain ⟨k0,k1,k2,k3,k4,k5⟩:=k
   unfold frP at k1 k2 k3
   rw [if_pos (by omega)] at hn
   rcases (by omega : i=0∨i=1∨i=2∨i=3) with rfl | rfl | rfl | rfl
   · exact ⟨rfl,hid.1,hid.2⟩
   · exact ⟨k5,by show 0≤q.first; omega,by show q.first≤_; omega⟩
   · exact ⟨rfl,by show 0≤q.ack; omega,by show q.ack≤_; omega⟩
   · exact ⟨rfl,by show 0≤q.frame; omega,by show q.frame≤_; omega⟩
 · rw [if_neg (by omega)] at hn
   obtain rfl : i=0:=by omega
   exact ⟨rfl,hid.1,hid.2⟩
theorem rest_bad {bs X : List UInt8} {n i at' k : Nat} {x er : Int} (hn : n=if (bs.getD 0 0).toNat=1 then 4 else 1) (hi : i < n) (hq : ∀ q,decP bs q→X.drop at'=restAt q i) (hg : GetR (X.drop at') x k er)
   (hb : er≠0∨x < 0∨1099511627776 < x) : decO bs=none:=decP_bad fun ⟨q,h⟩=>by
 obtain ⟨h1,h2,h3⟩:=rest_step h hn hi
 obtain ⟨e1,e2,e3⟩:=hg.2.2.2.2 (fldAt q i) (restAt q (i+1)) (by omega) (by omega) (by rw [hq q h,h1])
 omega
section
variable {W w : World} {L L' R : List SP} {n c m rb : Nat} {ad : Option Addr} {bs rest : List UInt8} {p : Pk} {bad : Bool}
theorem refUnpacket_spec (hs : St W w L) (hb : bs.length≤65536) (hc : bs.length≤c) (hp : ∀ w',St W w' L→RdB w' ad bs.length bs) :
   Calls Tryz.prog 143 #[.slice ad bs.length c] w fun e w'=>∃ (p : Pk) (adP : Option Addr) (cP : Nat) (ok : Bool),e=.returned (.tuple #[.agg (pkC p adP cP).toArray,.bool ok])∧(ok=true→decO bs=some p)∧(ok=false→decO bs=none)∧St W w' (Sl 5 1 adP p.press.length cP (bc p.press)::L):=by
 have hpk0 : ∀ {w'},St W w' L→decO bs=none→∃ (p : Pk) (adP : Option Addr) (cP : Nat) (ok : Bool),Ending.returned (.tuple #[.agg (pkC pk0 none 0).toArray,.bool false])=.returned (.tuple #[.agg (pkC p adP cP).toArray,.bool ok])∧(ok=true→decO bs=some p)∧(ok=false→decO bs=none)∧St W w' (Sl 5 1 adP p.press.length cP (bc p.press)::L) :=
   fun hs hno=>⟨pk0,none,0,false,rfl,fun h=>(by cases h),fun _=>hno,hs.sl0 _ _ _⟩
 refine calls_enter Tryz.func143 rfl Tryz.ntmps143 (Nat.le_of_ble_eq_true rfl) ?_
 intro a ha
 replace ha : Fr a 153 [(0,_)]:=ha
 refine WS<|WR ?_
 refine SK (st_alloc ha rfl hs Ty.t40 rfl fun b2 a w ha hs ho=>?_)
 clear ho
 refine S1 ha fun a ha=>?_
 refine LN<|TN<|WS<|WS<|WR ?_
 iterate 3 (refine S1 ha fun a ha=>?_)
 refine LN<|TN ?_
 refine WI ha (fun hc0=>?_) (fun hc0=>?_)
 ·
  have hno : decO bs=none:=decO_none fun q hq=>by
    have:=congrArg List.length hq.2.2
    have hm : 1≤(midPk q).length:=by rw [midPk,List.length_append]; have:=putL_pos (zz q.id); omega
    rw [encPk_len] at this; omega
  refine WS<|WR ?_
  refine SK (st_set ha rfl (ex_build ha Ty.b40 Ty.t40 rfl) rfl fun a ha=>?_)
  refine SK (st_storeAll ha rfl hs Ty.t40 (by simp [Value.oneCell']) (by rfl) fun a w ha hs=>?_)
  refine S1d ha fun a ha=>?_
  refine LN<|TN<|wp_ret<|TR ?_
  refine retC2 ha rfl (run_loadN Tryz.underlying40 rfl Ty.t40 (hs.rdAll)) ?_
  exact hpk0 hs.tail hno
 ·
  obtain ⟨bb,oo,rfl,_⟩:=(hp _ hs.tail).get (by omega)
  have h7 : 8≤bs.length:=by omega
  refine WK<|TN<|WS<|WR ?_
  iterate 3 (refine S1 ha fun a ha=>?_)
  refine SK (st_set ha rfl (ex_subI ha (by omega) (by omega)) rfl fun a ha=>?_)
  rw [show (bs.length : Int) - 4=((bs.length - 4 : Nat) : Int) from by omega] at ha
  refine SK (st_set ha rfl (ex_sliceLH ha Tryz.underlying22 Ty.t5 (by omega) (by omega)) rfl fun a ha=>?_)
  obtain ⟨X,hX⟩ : ∃ X,X=(bs.drop 3).take (bs.length - 7):=⟨_,rfl⟩
  have hXl : X.length=bs.length - 7:=by rw [hX,List.length_take,List.length_drop]; omega
  have hr : Rdr W L (cutAd (some ⟨bb,oo,none⟩) 3 c 1) (c - 3) X:=⟨by omega,by omega,fun w' hw=>by
    rw [hXl,hX]
    exact ((hp w' hw).cutL (lo:=3) (by omega) hc).cutH (by rw [List.length_drop]; omega)⟩
  have hq1 : ∀ q,decP bs q→(q.kind=((bs.getD 0 0).toNat : Int)∧q.from'=((bs.getD 1 0).toNat : Int)∧q.to=((bs.getD 2 0).toNat : Int))∧X=midPk q:=fun q h=>by
    rw [hX]; exact decP_head h
  rw [show bs.length - 4 - 3=X.length from by omega] at ha
  have hXp : 1≤X.length:=by omega
  obtain ⟨bx,ox,hbx,_⟩:=(hr.rd _ hs.tail).get (by omega)
  rw [hbx] at ha hr
  generalize c - 3=c1 at ha hr
  clear hX
  refine S1 ha fun a ha=>?_
  refine LN<|TN<|WS ?_
  refine DW (m:=15) (fun w=>Rd w bb oo (bc bs)) [6,7,10,11,13] [0,1,4,5,8,9,2,3,6,7,10,11,12,13,14] Ty.mixed (pk_then pk_body) (fun hpk=>?_)
  replace hs:=hs.drew
  generalize w.drew=w at hs hpk ⊢
  have hC : Rd w bb oo (bc bs):=(hp _ hs.tail).rd (by omega)
  refine DP hpk ha rfl fun a ha=>?_
  refine DQ hpk ha rfl rfl (fun w=>ex_indexAddr ha Tryz.underlying22 Ty.t5 (by omega)) fun a ha=>?_
  rw [Nat.mul_one] at ha
  refine DP hpk ha rfl fun a ha=>?_
  refine DQ hpk ha rfl rfl (fun w=>ex_indexAddr ha Tryz.underlying22 Ty.t5 (by omega)) fun a ha=>?_
  rw [Nat.mul_one] at ha
  refine DP hpk ha rfl fun a ha=>?_
  refine DQ hpk ha rfl rfl (fun w=>ex_indexAddr ha Tryz.underlying22 Ty.t5 (by omega)) fun a ha=>?_
  rw [Nat.mul_one] at ha
  refine DL hpk ha rfl (fun w hc=>hc 0 _ (bc_atD (by omega))) hC fun a ha=>?_
  refine DQ hpk ha rfl rfl (fun w=>ex_convIIs ha Tryz.underlying5 Tryz.underlying3 (i64u8 _)) fun a ha=>?_
  refine DL hpk ha rfl (fun w hc=>hc 1 _ (bc_atD (by omega))) hC fun a ha=>?_
  refine DH hpk ha rfl rfl (fun w hc=>ex_convIIs ha Tryz.underlying5 Tryz.underlying3 (i64u8 _)) hC fun a ha=>?_
  refine DL hpk ha rfl (fun w hc=>hc 2 _ (bc_atD (by omega))) hC fun a ha=>?_
  refine DH hpk ha rfl rfl (fun w hc=>ex_convIIs ha Tryz.underlying5 Tryz.underlying3 (i64u8 _)) hC fun a ha=>?_
  refine DQ hpk ha rfl rfl (fun w=>ex_build ha Ty.b40 Ty.t40 rfl) fun a ha=>?_
  refine D1 rfl (st_alloc ha rfl hs Ty.t40 rfl fun b5 a w ha hs ho=>?_)
  (try replace hC:=hC.trans ho); clear ho
  replace hC : (fun w=>Rd w bb oo (bc bs)) w:=((hp _ hs.tail.tail).rd (by omega))
  refine ⟨fun _=>hC,?_⟩
  refine D1 rfl (st_storeAll ha rfl hs Ty.t40 (by simp [Value.oneCell']) (by rfl) fun a w ha hs=>?_)
  refine ⟨fun h=>absurd h (by decide),?_⟩
  refine DD<|TN<|WS<|WR ?_
  refine SK (st_alloc ha rfl hs Ty.t235 rfl fun b6 a w ha hs ho=>?_)
  clear ho
  refine LN<|TN<|WS<|WR ?_
  refine S1 ha fun a ha=>?_
  refine LN<|TN<|WS<|WR ?_
  refine S1 ha fun a ha=>?_
  refine LN<|TN ?_
  refine wp_seq_cut (M:=fun a w=>∃ n : Nat,n=(if (bs.getD 0 0).toNat=1 then 4 else 1)∧Fr a 153 [(0,.slice (some ⟨bb,oo,none⟩) bs.length c),(2,.pointer (some ⟨b2,0,none⟩)),(4,.slice (some ⟨bx,ox,none⟩) X.length c1),(5,.pointer (some ⟨b5,0,none⟩)),(6,.pointer (some ⟨b6,0,none⟩)),(7,.int .i64 (0 : Nat)),(8,.int .i64 n)]∧St W w (blk b6 235 (ints .i64 4 (fun _=>0))::blk b5 40 (pkC ⟨((bs.getD 0 0).toNat : Int),((bs.getD 1 0).toNat : Int),((bs.getD 2 0).toNat : Int),0,0,0,0,0,[]⟩ none 0)::blk b2 40 (pkC pk0 none 0)::L)) ?_ ?_
  ·
   refine WS<|WR ?_
   refine S1 ha fun a ha=>?_
   refine SL ha (hs.rd1 rfl) fun a ha=>?_
   refine S1 ha fun a ha=>?_
   refine LN<|TN ?_
   refine WI ha (fun hc1=>?_) (fun hc1=>?_)
   ·
    refine WR ?_
    refine S1d ha fun a ha=>?_
    refine LN<|TN ?_
    exact ⟨4,by rw [if_pos (by omega)],ha.keep [0,2,4,5,6,7,8],hs⟩
   ·
    refine WK<|TN ?_
    exact ⟨1,by rw [if_neg (by omega)],ha.keep [0,2,4,5,6,7,8],hs⟩
  ·
   clear ha; (try clear hs)
   intro a w hcut
   obtain ⟨n,hn,ha,hs⟩:=hcut
   refine WS<|WS<|WR ?_
   refine S1 ha fun a ha=>?_
   refine LN<|TN<|wp_block ?_
   refine wp_loop_ghost (fun μ a w=>∃ (i k : Nat) (g : Nat→Int),(μ=n - i∧i≤n∧k≤X.length∧(∀ j,i≤j→g j=0)∧∀ q,decP bs q→X.drop k=restAt q i∧∀ j,j < i→g j=fldAt q j)∧Fr a 153 [(0,.slice (some ⟨bb,oo,none⟩) bs.length c),(2,.pointer (some ⟨b2,0,none⟩)),(4,.slice (some ⟨bx,ox,none⟩) X.length c1),(5,.pointer (some ⟨b5,0,none⟩)),(6,.pointer (some ⟨b6,0,none⟩)),(7,.int .i64 k),(8,.int .i64 n),(9,.int .i64 i)]∧St W w (blk b6 235 (ints .i64 4 g)::blk b5 40 (pkC ⟨((bs.getD 0 0).toNat : Int),((bs.getD 1 0).toNat : Int),((bs.getD 2 0).toNat : Int),0,0,0,0,0,[]⟩ none 0)::blk b2 40 (pkC pk0 none 0)::L)) (n) ?_ ?_
   · exact ⟨0,0,fun _=>0,⟨rfl,by omega,by omega,fun _ _=>rfl,fun q h=>⟨by rw [List.drop_zero]; exact (hq1 q h).2,fun j hj=>absurd hj (by omega)⟩⟩,ha.keep [0,2,4,5,6,7,8,9],hs⟩
   ·
    clear ha hs
    rintro μ a w ⟨i,k,g,⟨rfl,hi,hk,hg0,hqi⟩,ha,hs⟩
    refine WS<|WS<|WR ?_
    iterate 3 (refine S1 ha fun a ha=>?_)
    refine LN<|TN ?_
    refine WI ha (fun hc2=>?_) (fun hc2=>?_)
    ·
     have hin : i < n:=by omega
     have hi4 : i < 4:=by rw [hn] at hin; split at hin <;> omega
     have hrk:=hr.cut hk
     have hlk:=hrk.len
     refine WK<|TN<|WS<|wp_block<|WS<|WR ?_
     iterate 2 (refine S1 ha fun a ha=>?_)
     refine SK (st_set ha rfl (ex_sliceL ha Tryz.underlying22 Ty.t5 (by omega)) rfl fun a ha=>?_)
     rw [show X.length - k=(X.drop k).length from by simp] at ha
     refine SK (st_call ha rfl Ty.c163 rfl (refGet_spec (bs:=X.drop k) hs (by omega) (fun w' hw=>hrk.rd w' hw.tail.tail.tail)) ?_); clear ha hs
     rintro e w ⟨x,m,er,rfl,hgt,hs⟩
     refine ⟨_,rfl,?_⟩
     intro a ha
     iterate 7 (refine S1 ha fun a ha=>?_)
     refine LN<|TN<|WS<|WS<|WR ?_
     iterate 3 (refine S1 ha fun a ha=>?_)
     refine ha.by (s:=59) (fun hg2 ha=>?_) (fun hg2 ha=>?_)
     ·
      iterate 2 (refine SO (s:=59) ha fun a ha=>?_)
      refine PT ha fun a ha=>?_
      refine S1 ha fun a ha=>?_
      iterate 2 (refine SO (s:=63) ha fun a ha=>?_)
      refine PT ha fun a ha=>?_
      refine LN<|TN<|WTr ha<|WS<|WR ?_
      refine SK (st_set ha rfl (ex_build ha Ty.b40 Ty.t40 rfl) rfl fun a ha=>?_)
      refine SK (st_storeAll ha rfl hs Ty.t40 (by simp [Value.oneCell']) (by rfl) fun a w ha hs=>?_)
      refine S1 ha fun a ha=>?_
      refine LN<|TN<|wp_ret<|TR<|BR<|TR<|TR<|BR<|TR ?_
      refine retC2 ha rfl (run_loadN Tryz.underlying40 rfl Ty.t40 (hs.rdAll)) ?_
      have hno:=rest_bad hn hin (fun q h=>(hqi q h).1) hgt (.inl (by simpa using hg2))
      exact hpk0 hs.tail.tail.tail hno
     ·
      iterate 2 (refine S1g (s:=59) ha fun a ha=>?_)
      refine PF ha fun a ha=>?_
      refine S1 ha fun a ha=>?_
      refine ha.by (s:=63) (fun hg6 ha=>?_) (fun hg6 ha=>?_)
      ·
       iterate 2 (refine SO (s:=63) ha fun a ha=>?_)
       refine PT ha fun a ha=>?_
       refine LN<|TN<|WTr ha<|WS<|WR ?_
       refine SK (st_set ha rfl (ex_build ha Ty.b40 Ty.t40 rfl) rfl fun a ha=>?_)
       refine SK (st_storeAll ha rfl hs Ty.t40 (by simp [Value.oneCell']) (by rfl) fun a w ha hs=>?_)
       refine S1 ha fun a ha=>?_
       refine LN<|TN<|wp_ret<|TR<|BR<|TR<|TR<|BR<|TR ?_
       refine retC2 ha rfl (run_loadN Tryz.underlying40 rfl Ty.t40 (hs.rdAll)) ?_
       have hno:=rest_bad hn hin (fun q h=>(hqi q h).1) hgt (.inr (.inl (by simpa using hg6)))
       exact hpk0 hs.tail.tail.tail hno
      ·
       iterate 2 (refine S1g (s:=63) ha fun a ha=>?_)
       refine PF ha fun a ha=>?_
       refine LN<|TN ?_
       refine WI ha (fun hc3=>?_) (fun hc3=>?_)
       ·
        refine WS<|WR ?_
        refine SK (st_set ha rfl (ex_build ha Ty.b40 Ty.t40 rfl) rfl fun a ha=>?_)
        refine SK (st_storeAll ha rfl hs Ty.t40 (by simp [Value.oneCell']) (by rfl) fun a w ha hs=>?_)
        refine S1 ha fun a ha=>?_
        refine LN<|TN<|wp_ret<|TR<|BR<|TR<|TR<|BR<|TR ?_
        refine retC2 ha rfl (run_loadN Tryz.underlying40 rfl Ty.t40 (hs.rdAll)) ?_
        have hno:=rest_bad hn hin (fun q h=>(hqi q h).1) hgt (.inr (.inr (by simpa using hc3)))
        exact hpk0 hs.tail.tail.tail hno
       ·
        refine WK<|TN<|WS<|WR ?_
        iterate 2 (refine S1 ha fun a ha=>?_)
        refine SK (st_set ha rfl (ex_indexAddrA ha Tryz.underlying235 Ty.t2 (by omega)) rfl fun a ha=>?_)
        rw [Nat.zero_add,Nat.mul_one] at ha
        refine SK (st_store ha rfl hs Ty.t2 rfl (by rw [ints_len]; omega) fun a w ha hs=>?_)
        rw [ints_set,show (fun j=>if j=i then x else g j)=upd g i x from rfl] at hs
        refine LN<|TN ?_
        have hmk:=(hgt.2.2.1 (by simpa using hg2)).2
        rw [List.length_drop] at hmk
        refine WR ?_
        iterate 2 (refine S1 ha fun a ha=>?_)
        refine SK (st_set ha rfl (ex_addI ha (by omega) (by omega)) rfl fun a ha=>?_)
        refine S1d ha fun a ha=>?_
        refine LN<|BN<|TN<|WR ?_
        refine S1 ha fun a ha=>?_
        refine SK (st_set ha rfl (ex_addI ha (by omega) (by omega)) rfl fun a ha=>?_)
        refine S1d ha fun a ha=>?_
        refine LN<|TN ?_
        refine ⟨n - (i+1),by omega,i+1,k+m,upd g i x,⟨rfl,by omega,?_,?_,fun q h=>?_⟩,ha.keep [0,2,4,5,6,7,8,9],hs⟩
        · have:=(hgt.2.2.1 (by simpa using hg2)).2
          rw [List.length_drop] at this; omega
        · intro j hj
          rw [upd,if_neg (by omega)]; exact hg0 j (by omega)
        · obtain ⟨h1,h2⟩:=hqi q h
          obtain ⟨h3,h4,h5⟩:=rest_step h hn hin
          obtain ⟨e1,e2,e3⟩:=hgt.2.2.2.2 (fldAt q i) (restAt q (i+1)) (by omega) (by omega) (by rw [h1,h3])
          refine ⟨by rw [← List.drop_drop,h1,h3,e2,List.drop_left],fun j hj=>?_⟩
          by_cases hji : j=i
          · subst hji; rw [upd,if_pos rfl,e1]
          · rw [upd,if_neg hji]; exact h2 j (by omega)
    ·
     obtain rfl : i=n:=by omega
     rw [show pkC ⟨((bs.getD 0 0).toNat : Int),((bs.getD 1 0).toNat : Int),((bs.getD 2 0).toNat : Int),0,0,0,0,0,[]⟩ none 0=[.int .i64 ((bs.getD 0 0).toNat : Int),.int .i64 ((bs.getD 1 0).toNat : Int),.int .i64 ((bs.getD 2 0).toNat : Int),.int .i64 0,.int .i64 0,.slice none 0 0,.int .i64 0,.int .i64 0,.int .u32 (0 : Nat)] from rfl] at hs
     refine wp_exit<|TE<|TE<|blk_e<|TN<|WS ?_
     refine DW (m:=16) (fun w'=>Rd w' b6 0 (ints .i64 4 g)) [3,5,7,9,10,11,12,13] [0,2,4,6,1,8,3,5,7,9,10,11,12,13,14,15] Ty.mixed (pk_then pk_body) (fun hpk=>?_)
     replace hs:=hs.drew
     generalize w.drew=w at hs hpk ⊢
     have hC : Rd w b6 0 (ints .i64 4 g):=hs.rdAll
     iterate 4 (refine DQ hpk ha rfl rfl (fun w=>ex_indexAddrA ha Tryz.underlying235 Ty.t2 (by omega)) fun a ha=>?_)
     refine DL hpk ha rfl (fun w hc=>hc 0 _ (ints_get g (by decide))) hC fun a ha=>?_
     refine DP hpk ha rfl fun a ha=>?_
     refine DL hpk ha rfl (fun w hc=>hc 1 _ (ints_get g (by decide))) hC fun a ha=>?_
     refine DL hpk ha rfl (fun w hc=>hc 2 _ (ints_get g (by decide))) hC fun a ha=>?_
     refine DL hpk ha rfl (fun w hc=>hc 3 _ (ints_get g (by decide))) hC fun a ha=>?_
     refine D1 rfl (st_store ha rfl hs Ty.t2 rfl (by simp) fun a w ha hs=>?_)
     replace hC : (fun w'=>Rd w' b6 0 (ints .i64 4 g)) w:=hs.rdAll
     refine ⟨fun _=>hC,?_⟩
     refine D1 rfl (st_set ha rfl (ex_fieldAddr (k:=4) ha Tryz.underlying40 rfl Ty.t3 rfl) rfl fun a ha=>?_)
     refine ⟨fun _=>hC,?_⟩
     refine D1 rfl (st_store ha rfl hs Ty.t3 rfl (by simp) fun a w ha hs=>?_)
     replace hC : (fun w'=>Rd w' b6 0 (ints .i64 4 g)) w:=hs.rdAll
     refine ⟨fun _=>hC,?_⟩
     refine D1 rfl (st_set ha rfl (ex_fieldAddr (k:=6) ha Tryz.underlying40 rfl Ty.t3 rfl) rfl fun a ha=>?_)
     refine ⟨fun _=>hC,?_⟩
     refine D1 rfl (st_store ha rfl hs Ty.t3 rfl (by simp) fun a w ha hs=>?_)
     replace hC : (fun w'=>Rd w' b6 0 (ints .i64 4 g)) w:=hs.rdAll
     refine ⟨fun _=>hC,?_⟩
     refine DP hpk ha rfl fun a ha=>?_
     refine D1 rfl (st_store ha rfl hs Ty.t3 rfl (by simp) fun a w ha hs=>?_)
     refine ⟨fun h=>absurd h (by decide),?_⟩
     refine DD<|TN ?_
     refine wp_seq_cut (M:=fun a w=>∃ (p : Pk) (adP : Option Addr) (cP : Nat),p.sum < 4294967296∧(∀ q,decP bs q→p=q)∧Fr a 153 [(0,.slice (some ⟨bb,oo,none⟩) bs.length c),(2,.pointer (some ⟨b2,0,none⟩)),(5,.pointer (some ⟨b5,0,none⟩))]∧St W w (blk b5 40 (pkC p adP cP)::Sl 5 1 adP p.press.length cP (bc p.press)::blk b2 40 (pkC pk0 none 0)::L)) ?_ ?_
     ·
      refine WS<|WR ?_
      refine S1 ha fun a ha=>?_
      refine SL ha (hs.rd1 rfl) fun a ha=>?_
      refine S1 ha fun a ha=>?_
      refine LN<|TN ?_
      refine WI ha (fun hc4=>?_) (fun hc4=>?_)
      ·
       have hk1 : ∀ q,decP bs q→X.drop k=tailPk q∧q.press.length≤32:=fun q h=>by
         rw [if_pos (by omega)] at hn
         refine ⟨by rw [(hqi q h).1,hn]; rfl,?_⟩
         rcases decP_kind h with k | k
         · exact k.2.2.2.2.1
         · rw [k.2.2.2.2.1]; simp
       refine WS<|WS<|WR ?_
       iterate 3 (refine S1 ha fun a ha=>?_)
       refine SK (st_set ha rfl (ex_subI ha (by omega) (by omega)) rfl fun a ha=>?_)
       refine S1 ha fun a ha=>?_
       refine LN<|TN ?_
       refine WI ha (fun hc5=>?_) (fun hc5=>?_)
       ·
        have hno : decO bs=none:=decP_bad fun ⟨q,h⟩=>by
          have:=congrArg List.length (hk1 q h).1
          rw [tailPk,List.length_append,fourL_len,List.length_drop] at this
          omega
        refine WS<|WR ?_
        refine SK (st_set ha rfl (ex_build ha Ty.b40 Ty.t40 rfl) rfl fun a ha=>?_)
        refine SK (st_storeAll ha rfl hs Ty.t40 (by simp [Value.oneCell']) (by rfl) fun a w ha hs=>?_)
        refine S1 ha fun a ha=>?_
        refine LN<|TN<|wp_ret<|TR<|TR ?_
        refine retC2 ha rfl (run_loadN Tryz.underlying40 rfl Ty.t40 (hs.rdAll)) ?_
        exact hpk0 hs.tail.tail.tail hno
       ·
        have hk4 : k+4≤X.length:=by omega
        refine WK<|TN<|WS<|WS<|WR ?_
        refine S1 ha fun a ha=>?_
        refine LN<|TN<|wp_block ?_
        refine wp_loop_ghost (fun μ a w=>∃ (j : Nat),(μ=4 - j∧j≤4)∧Fr a 153 [(0,.slice (some ⟨bb,oo,none⟩) bs.length c),(2,.pointer (some ⟨b2,0,none⟩)),(4,.slice (some ⟨bx,ox,none⟩) X.length c1),(5,.pointer (some ⟨b5,0,none⟩)),(7,.int .i64 k),(13,.int .i64 j)]∧St W w (blk b5 40 [.int .i64 ((bs.getD 0 0).toNat : Int),.int .i64 ((bs.getD 1 0).toNat : Int),.int .i64 ((bs.getD 2 0).toNat : Int),.int .i64 (g 0),.int .i64 (g 1),.slice none 0 0,.int .i64 (g 2),.int .i64 (g 3),.int .u32 (fourB ((X.drop k).take j) : Nat)]::blk b2 40 (pkC pk0 none 0)::L)) (4) ?_ ?_
        · exact ⟨0,⟨rfl,by omega⟩,ha.keep [0,2,4,5,7,13],(hs.perm (List.Perm.swap _ _ _)).tail⟩
        ·
         clear ha hs
         rintro μ a w ⟨j,⟨rfl,hj⟩,ha,hs⟩
         refine WS<|WS<|WR ?_
         iterate 2 (refine S1 ha fun a ha=>?_)
         refine LN<|TN ?_
         refine WI ha (fun hc6=>?_) (fun hc6=>?_)
         ·
          have hj4 : j < 4:=by omega
          have hkj : k+j < X.length:=by omega
          have hbd:=fourB_bd ((X.drop k).take j) 3 (by rw [List.length_take]; omega)
          rw [show (256 : Nat) ^ 3=16777216 from by decide] at hbd
          have hjl : j < (X.drop k).length:=by rw [List.length_drop]; omega
          have hft:=fourB_take hjl
          rw [show (X.drop k)[j]=X[k+j] from List.getElem_drop ..] at hft
          have hb8:=u8_lt X[k+j]
          refine WK<|TN<|WS<|wp_block ?_
          refine DW (m:=13) (fun w'=>w'.cell? ⟨b5,8,none⟩=some (.int .u32 (fourB ((X.drop k).take j) : Nat))∧Rd w' bx ox (bc X)) [8,9] [0,3,4,5,6,7,1,2,8,9,10,11,12] Ty.mixed (pk_blk (pk_then (pk_then (pk_blk (pk_then (pk_then pk_body)))))) (fun hpk=>?_)
          replace hs:=hs.drew
          generalize w.drew=w at hs hpk ⊢
          have hC : w.cell? ⟨b5,8,none⟩=some (.int .u32 (fourB ((X.drop k).take j) : Nat))∧Rd w bx ox (bc X):=⟨hs.rd1 rfl,(hr.rd _ hs.tail.tail).rd (by omega)⟩
          iterate 4 (refine DP hpk ha rfl fun a ha=>?_)
          refine DQ hpk ha rfl rfl (fun w=>ex_addI ha (by omega) (by omega)) fun a ha=>?_
          refine DQ hpk ha rfl rfl (fun w=>ex_indexAddr ha Tryz.underlying22 Ty.t5 (by omega)) fun a ha=>?_
          rw [Nat.mul_one] at ha
          refine DL hpk ha rfl (fun w hc=>hc.1) hC fun a ha=>?_
          refine DQ hpk ha rfl rfl (fun w=>ex_mul ha) fun a ha=>?_
          rw [show IntKind.u32.wrap (((fourB ((X.drop k).take j) : Nat) : Int)*256)=((fourB ((X.drop k).take j)*256 : Nat) : Int) from by rw [wrap_u32]; omega] at ha
          refine D1 rfl (st_set ha rfl (ex_load1 ha Tryz.underlying5 rfl (hC.2 (k+j) _ (bc_at hkj))) rfl fun a ha=>?_)
          refine ⟨fun _=>hC,?_⟩
          refine D1 rfl (st_set ha rfl (ex_convIIs ha Tryz.underlying5 Tryz.underlying38 (by rw [wrap_u32]; omega)) rfl fun a ha=>?_)
          refine ⟨fun _=>hC,?_⟩
          refine DQ hpk ha rfl rfl (fun w=>ex_add ha) fun a ha=>?_
          rw [show IntKind.u32.wrap (((fourB ((X.drop k).take j)*256 : Nat) : Int)+(X[k+j].toNat : Int))=((fourB ((X.drop k).take (j+1)) : Nat) : Int) from by rw [wrap_u32,hft]; omega] at ha
          refine DP hpk ha rfl fun a ha=>?_
          refine D1 rfl (st_store ha rfl hs Ty.t38 rfl (by simp) fun a w ha hs=>?_)
          refine ⟨fun h=>absurd h (by decide),?_⟩
          refine DD<|BN<|TN<|WR ?_
          refine S1 ha fun a ha=>?_
          refine SK (st_set ha rfl (ex_addI ha (by omega) (by omega)) rfl fun a ha=>?_)
          refine S1d ha fun a ha=>?_
          refine LN<|TN ?_
          exact ⟨4 - (j+1),by omega,j+1,⟨rfl,by omega⟩,ha.keep [0,2,4,5,7,13],hs⟩
         ·
          obtain rfl : j=4:=by omega
          have hr4:=hr.cut hk4
          have hl4:=hr4.len
          have hsum:=fourB_bd ((X.drop k).take 4) 4 (by rw [List.length_take]; omega)
          rw [show (256 : Nat) ^ 4=4294967296 from by decide] at hsum
          have hk2 : ∀ q,decP bs q→q.sum=fourB ((X.drop k).take 4)∧X.drop (k+4)=putL (zz (q.press.length : Int))++runsL q.press 0∧q.press.length≤32:=fun q h=>by
            obtain ⟨h1,h2⟩:=hk1 q h
            rw [← List.drop_drop,h1,tailPk]
            exact ⟨(fourB_four h.2.1).symm,rfl,h2⟩
          generalize fourB ((X.drop k).take 4)=sm at hs hsum hk2
          refine wp_exit<|TE<|TE<|blk_e<|TN<|WS<|WR ?_
          refine S1 ha fun a ha=>?_
          refine SK (st_set ha rfl (ex_addI ha (by omega) (by omega)) rfl fun a ha=>?_)
          refine S1d ha fun a ha=>?_
          refine LN<|TN<|WS<|WR ?_
          iterate 2 (refine S1 ha fun a ha=>?_)
          refine SK (st_set ha rfl (ex_sliceL ha Tryz.underlying22 Ty.t5 (by omega)) rfl fun a ha=>?_)
          rw [show X.length - (k+4)=(X.drop (k+4)).length from by simp] at ha
          refine SK (st_call ha rfl Ty.c163 rfl (refGet_spec (bs:=X.drop (k+4)) hs (by omega) (fun w' hw=>hr4.rd w' hw.tail.tail)) ?_); clear ha hs
          rintro e w ⟨x,m,er,rfl,hgt,hs⟩
          refine ⟨_,rfl,?_⟩
          intro a ha
          iterate 7 (refine S1 ha fun a ha=>?_)
          refine LN<|TN<|WS<|WS<|WR ?_
          iterate 3 (refine S1 ha fun a ha=>?_)
          refine ha.by (s:=123) (fun hg2 ha=>?_) (fun hg2 ha=>?_)
          ·
           iterate 2 (refine SO (s:=123) ha fun a ha=>?_)
           refine PT ha fun a ha=>?_
           refine S1 ha fun a ha=>?_
           iterate 2 (refine SO (s:=127) ha fun a ha=>?_)
           refine PT ha fun a ha=>?_
           refine LN<|TN<|WTr ha<|WS<|WR ?_
           refine SK (st_set ha rfl (ex_build ha Ty.b40 Ty.t40 rfl) rfl fun a ha=>?_)
           refine SK (st_storeAll ha rfl hs Ty.t40 (by simp [Value.oneCell']) (by rfl) fun a w ha hs=>?_)
           refine S1 ha fun a ha=>?_
           refine LN<|TN<|wp_ret<|TR<|TR ?_
           refine retC2 ha rfl (run_loadN Tryz.underlying40 rfl Ty.t40 (hs.rdAll)) ?_
           have hno : decO bs=none:=decP_bad fun ⟨q,h⟩=>by
             obtain ⟨_,e2,h32⟩:=hk2 q h
             have:=(hgt.2.2.2.2 (q.press.length : Int) _ (by omega) (by omega) e2).2.2
             simp [this] at hg2
           exact hpk0 hs.tail.tail hno
          ·
           iterate 2 (refine S1g (s:=123) ha fun a ha=>?_)
           refine PF ha fun a ha=>?_
           refine S1 ha fun a ha=>?_
           refine ha.by (s:=127) (fun hg6 ha=>?_) (fun hg6 ha=>?_)
           ·
            iterate 2 (refine SO (s:=127) ha fun a ha=>?_)
            refine PT ha fun a ha=>?_
            refine LN<|TN<|WTr ha<|WS<|WR ?_
            refine SK (st_set ha rfl (ex_build ha Ty.b40 Ty.t40 rfl) rfl fun a ha=>?_)
            refine SK (st_storeAll ha rfl hs Ty.t40 (by simp [Value.oneCell']) (by rfl) fun a w ha hs=>?_)
            refine S1 ha fun a ha=>?_
            refine LN<|TN<|wp_ret<|TR<|TR ?_
            refine retC2 ha rfl (run_loadN Tryz.underlying40 rfl Ty.t40 (hs.rdAll)) ?_
            have hno : decO bs=none:=decP_bad fun ⟨q,h⟩=>by
              obtain ⟨_,e2,h32⟩:=hk2 q h
              have:=(hgt.2.2.2.2 (q.press.length : Int) _ (by omega) (by omega) e2).1
              omega
            exact hpk0 hs.tail.tail hno
           ·
            iterate 2 (refine S1g (s:=127) ha fun a ha=>?_)
            refine PF ha fun a ha=>?_
            refine LN<|TN ?_
            refine WI ha (fun hc7=>?_) (fun hc7=>?_)
            ·
             refine WS<|WR ?_
             refine SK (st_set ha rfl (ex_build ha Ty.b40 Ty.t40 rfl) rfl fun a ha=>?_)
             refine SK (st_storeAll ha rfl hs Ty.t40 (by simp [Value.oneCell']) (by rfl) fun a w ha hs=>?_)
             refine S1 ha fun a ha=>?_
             refine LN<|TN<|wp_ret<|TR<|TR ?_
             refine retC2 ha rfl (run_loadN Tryz.underlying40 rfl Ty.t40 (hs.rdAll)) ?_
             have hno : decO bs=none:=decP_bad fun ⟨q,h⟩=>by
               obtain ⟨_,e2,h32⟩:=hk2 q h
               have:=(hgt.2.2.2.2 (q.press.length : Int) _ (by omega) (by omega) e2).1
               omega
             exact hpk0 hs.tail.tail hno
            ·
             refine WK<|TN<|WS ?_
             have hml:=(hgt.2.2.1 (by simpa using hg2)).2
             rw [List.length_drop] at hml
             have hr5:=hr.cut (k:=k+4+m) (by omega)
             refine WR ?_
             iterate 3 (refine S1 ha fun a ha=>?_)
             refine SK (st_set ha rfl (ex_addI ha (by omega) (by omega)) rfl fun a ha=>?_)
             refine SK (st_set ha rfl (ex_sliceL ha Tryz.underlying22 Ty.t5 (by omega)) rfl fun a ha=>?_)
             rw [show X.length - (k+4+m)=(X.drop (k+4+m)).length from by simp] at ha
             refine SK (st_call ha rfl Ty.c164 rfl (refUnruns_spec (m:=32) (bs:=X.drop (k+4+m)) hs hr5.len hr5.cap (by omega) (fun w' hw=>hr5.rd w' hw.tail.tail)) ?_); clear ha hs
             rintro e w ⟨out,adO,cO,e2,rfl,hun,hs⟩
             refine ⟨_,rfl,?_⟩
             intro a ha
             iterate 5 (refine S1 ha fun a ha=>?_)
             refine LN ?_
             have hk3 : ∀ q,decP bs q→out=q.press∧e2=0:=fun q h=>by
               obtain ⟨_,e2,h32⟩:=hk2 q h
               obtain ⟨f1,f2,f3⟩:=hgt.2.2.2.2 (q.press.length : Int) _ (by omega) (by omega) e2
               refine hun.2.2 q.press h32 ?_
               rw [← List.drop_drop,e2,f2,List.drop_left]
             refine TN<|WS<|WS<|WR ?_
             iterate 2 (refine S1 ha fun a ha=>?_)
             refine LN<|TN ?_
             refine WI ha (fun hc8=>?_) (fun hc8=>?_)
             ·
              refine WS<|WR ?_
              refine SK (st_set ha rfl (ex_build ha Ty.b40 Ty.t40 rfl) rfl fun a ha=>?_)
              refine SK (st_storeAll ha rfl hs Ty.t40 (by simp [Value.oneCell']) (by rfl) fun a w ha hs=>?_)
              refine S1 ha fun a ha=>?_
              refine LN<|TN<|wp_ret<|TR<|TR ?_
              refine retC2 ha rfl (run_loadN Tryz.underlying40 rfl Ty.t40 (hs.rdAll)) ?_
              have hno : decO bs=none:=decP_bad fun ⟨q,h⟩=>by
                have:=(hk3 q h).2
                omega
              exact hpk0 hs.tail.tail.tail hno
             ·
              refine WK<|TN<|WR ?_
              iterate 2 (refine S1 ha fun a ha=>?_)
              refine SK (st_store ha rfl hs Ty.t22 rfl (by simp) fun a w ha hs=>?_)
              refine LN<|TN ?_
              refine ⟨⟨((bs.getD 0 0).toNat : Int),((bs.getD 1 0).toNat : Int),((bs.getD 2 0).toNat : Int),g 0,g 1,g 2,g 3,sm,out⟩,adO,cO,hsum,fun q h=>?_,ha.keep [0,2,5],hs⟩
              obtain ⟨h1,h2,h3⟩:=(hq1 q h).1
              have h4:=(hqi q h).2
              rw [if_pos (by omega)] at hn
              rw [h4 0 (by omega),h4 1 (by omega),h4 2 (by omega),h4 3 (by omega),← h1,← h2,← h3,(hk3 q h).1,← (hk2 q h).1]
              rfl
      ·
       refine WK<|TN ?_
       refine ⟨⟨((bs.getD 0 0).toNat : Int),((bs.getD 1 0).toNat : Int),((bs.getD 2 0).toNat : Int),g 0,g 1,g 2,g 3,0,[]⟩,none,0,(by show 0 < 4294967296; decide),fun q h=>?_,ha.keep [0,2,5],(((hs.perm (List.Perm.swap _ _ _)).tail.sl0 5 1 none)).perm (List.Perm.swap _ _ _)⟩
       obtain ⟨h1,h2,h3⟩:=(hq1 q h).1
       have h4:=(hqi q h).2
       rw [if_neg (by omega)] at hn
       rcases decP_kind h with k | k
       · omega
       · obtain ⟨k0,k1,k2,k3,k4,k5⟩:=k
         have h5:=h4 0 (by omega)
         have h6:=hg0 1 (by omega)
         have h7:=hg0 2 (by omega)
         have h8:=hg0 3 (by omega)
         rw [h5,h6,h7,h8,← h1,← h2,← h3]
         show Pk.mk q.kind q.from' q.to q.id 0 0 0 0 []=q
         cases q
         simp_all
     ·
      clear ha; (try clear hs)
      intro a w hcut
      obtain ⟨p,adP,cP,hsum,hqp,ha,hs⟩:=hcut
      refine WS ?_
      refine DW (m:=9) (fun w'=>Rd w' b5 0 (pkC p adP cP)∧RdB w' (some ⟨bb,oo,none⟩) bs.length bs) [1,2,3,5,6,7] [4,0,1,5,2,3,6,7,8] Ty.mixed (pk_then pk_body) (fun hpk=>?_)
      replace hs:=hs.drew
      generalize w.drew=w at hs hpk ⊢
      have hC : Rd w b5 0 (pkC p adP cP)∧RdB w (some ⟨bb,oo,none⟩) bs.length bs:=⟨hs.rdAll,hp _ hs.tail.tail.tail⟩
      refine DP hpk ha rfl fun a ha=>?_
      iterate 2 (refine DH hpk ha rfl rfl (fun w hc=>ex_loadN ha Tryz.underlying40 rfl Ty.t40 (hc.1)) hC fun a ha=>?_)
      refine DH hpk ha rfl rfl (fun w hc=>ex_toString ha Tryz.underlying22 Tryz.underlying5 Tryz.underlying9 (hc.2)) hC fun a ha=>?_
      refine D1 rfl (st_call ha rfl Ty.c16 rfl (refPacket_spec (p:=p) hs hsum (fun w' hw=>hw.rdB adP p.press rfl rfl)) ?_); clear ha hs
      rintro e w ⟨adE,cE,rfl,hs⟩
      refine ⟨_,rfl,?_⟩
      intro a ha
      replace hC : (fun w'=>Rd w' b5 0 (pkC p adP cP)∧RdB w' (some ⟨bb,oo,none⟩) bs.length bs) w:=⟨hs.rdAll,hp _ hs.tail.tail.tail.tail⟩
      refine ⟨fun _=>hC,?_⟩
      refine D2 (i:=3) (j:=7) [6,7,8] [3,6,8] (by kernel_rfl) rfl rfl ?_ ?_
      ·
       refine st_set ha rfl (ex_toString ha Tryz.underlying22 Tryz.underlying5 Tryz.underlying9 ((hs.rdB adE (encO p) rfl rfl))) rfl fun a ha=>?_
       refine ⟨fun _=>hC,?_⟩
       refine DH hpk ha rfl rfl (fun w hc=>ex_eqlS ha) hC fun a ha=>?_
       refine D1 rfl (st_storeAll ha rfl hs Ty.t40 (pkC_one p adP cP) (by rfl) fun a w ha hs=>?_)
       replace hC : (fun w'=>Rd w' b5 0 (pkC p adP cP)∧RdB w' (some ⟨bb,oo,none⟩) bs.length bs) w:=⟨hs.rdAll,hp _ hs.tail.tail.tail.tail⟩
       refine ⟨fun _=>hC,?_⟩
       refine DP hpk ha rfl fun a ha=>?_
       refine DD<|TN<|wp_ret ?_
       refine retC2 ha rfl (run_loadN Tryz.underlying40 rfl Ty.t40 (hs.rdAll)) ?_
       refine ⟨p,adP,cP,_,rfl,fun h=>?_,fun h=>?_,hs.sub⟩
       · rw [str_beq] at h
         exact decO_some ((decP_iff (fun e=>by rw [e] at h7; simp at h7) hsum).2 (by simpa using h))
       · refine decP_bad fun ⟨q,hd⟩=>?_
         have e : encO p=bs:=by rw [hqp q hd,encO,if_pos hd.1]; exact hd.2.2
         rw [e,str_beq] at h
         simp at h
      ·
       refine st_storeAll ha rfl hs Ty.t40 (pkC_one p adP cP) (by rfl) fun a w ha hs=>?_
       replace hC : (fun w'=>Rd w' b5 0 (pkC p adP cP)∧RdB w' (some ⟨bb,oo,none⟩) bs.length bs) w:=⟨hs.rdAll,hp _ hs.tail.tail.tail.tail⟩
       refine ⟨fun _=>hC,?_⟩
       refine D1 rfl (st_set ha rfl (ex_toString ha Tryz.underlying22 Tryz.underlying5 Tryz.underlying9 ((hs.rdB adE (encO p) rfl rfl))) rfl fun a ha=>?_)
       refine ⟨fun _=>hC,?_⟩
       refine DH hpk ha rfl rfl (fun w hc=>ex_eqlS ha) hC fun a ha=>?_
       refine DP hpk ha rfl fun a ha=>?_
       refine DD<|TN<|wp_ret ?_
       refine retC2 ha rfl (run_loadN Tryz.underlying40 rfl Ty.t40 (hs.rdAll)) ?_
       refine ⟨p,adP,cP,_,rfl,fun h=>?_,fun h=>?_,hs.sub⟩
       · rw [str_beq] at h
         exact decO_some ((decP_iff (fun e=>by rw [e] at h7; simp at h7) hsum).2 (by simpa using h))
       · refine decP_bad fun ⟨q,hd⟩=>?_
         have e : encO p=bs:=by rw [hqp q hd,encO,if_pos hd.1]; exact hd.2.2
         rw [e,str_beq] at h
         simp at h
end
end Go.Proofs.YtagpkhbkdbaigaaGreat
