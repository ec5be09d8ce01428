/- The walks of package page. -/
import Derived.Test.YteoldcfapaiobaaGreatC01Row
import Derived.Maps.Own
import Derived.Shelf.SlIterI.Nil
import Derived.Shelf.SortM.Plain
import Derived.Shelf.SortM.SortNone
import Derived.DataShut
namespace Go.Proofs.YteoldcfapaiobaaGreat
open Tryz
open List (mem_cons_self drop_zero take_zero nil_append map_cons set_append_right set_append_left getElem?_cons_succ length_nil mem_range getElem?_toArray getElem?_range ext_getElem eraseIdx_eq_take_drop_succ getElem_set_self eraseIdx_set_eq take_length ext_getElem? mem_or_eq_of_mem_set getElem_mem set_set map_take map_drop mem_singleton map_nil mem_of_mem_eraseIdx range_succ countP_congr getElem?_set_ne getElem?_set_self set_getElem_self)
open Go.RowKit
set_option linter.unusedVariables false
set_option linter.unusedSimpArgs false
set_option maxRecDepth 10000
set_option synthInstance.maxSize 4000
set_option synthInstance.maxHeartbeats 400000
section
structure Pg where
 g:Nat→Int
 refs:Nat
def Pg.cells (p:Pg):List Value:=ints .i32 8 p.g++[.int .i64 p.refs]
def hQ (ps:List Pg):List Value:=rows Pg.cells ps
def rV:Pg:=⟨λ_=>0,0⟩
def oV:Pg:=⟨λ_=>0,1⟩
theorem Pg.len (p:Pg):p.cells.length=9:=by simp[Pg.cells,df]
theorem vg (ps:List Pg):(hQ ps).length=ps.length*9:=iW Pg.len ps
theorem Pg.one (p:Pg):∀ v∈p.cells,v.oneCell'=true:=by
 intro v hv;rcases eM.1 hv with h | h
 ·exact tr v h
 ·simp at h;subst h;rfl
theorem rW {ps:List Pg}{i:Nat}(h:i<ps.length):(hQ ps)[i*9+8]?=some (.int .i64 ps[i].refs):=B5 Pg.len ps h (by simp[Pg.cells,df])
theorem SL {ps:List Pg}{i k:Nat}(h:i<ps.length)(hk:k<8):(hQ ps)[i*9+k]?=some (.int .i32 (ps[i].g k)):=B5 Pg.len ps h (by
 rw[Pg.cells,lS (by rw[df];exact hk),fO _ hk])
theorem HJ {ps:List Pg}{i r:Nat}(h:i<ps.length):(hQ ps).set (i*9+8) (.int .i64 r)=hQ (ps.set i ⟨ps[i].g,r⟩):=pX Pg.len ps _ h (by decide) (by
 rw[Pg.cells,set_append_right _ _ (by rw[df];exact bf _),df];rfl)
theorem SM {ps:List Pg}{i k:Nat}{v:Int}(h:i<ps.length)(hk:k<8):(hQ ps).set (i*9+k) (.int .i32 v)=hQ (ps.set i ⟨λj=>if j=k then v else ps[i].g j,ps[i].refs⟩):=pX Pg.len ps _ h (by omega) (by
 rw[Pg.cells,set_append_left _ _ (by rw[df];exact hk),ints_set];rfl)
theorem SN {ps:List Pg}{i:Nat}(p:Pg)(h:i<ps.length):cB (hQ ps) (i*9) p.cells=hQ (ps.set i p):=Hq Pg.len ps p h
theorem SO {ps:List Pg}{i:Nat}(h:i<ps.length):((hQ ps).drop (i*9)).take 8=ints .i32 8 ps[i].g:=by
 have:=P1 (k:=0) (m:=8) Pg.len ps h (by decide);simp only[Nat.add_zero,drop_zero]at this;rw[hQ,this,Pg.cells,List.take_left' (df _ _ _)]
theorem SQ {ps:List Pg}{i:Nat}{g:Nat→Int}(h:i<ps.length):cB (hQ ps) (i*9) (ints .i32 8 g)=hQ (ps.set i ⟨g,ps[i].refs⟩):=by
 have:=P0 (k:=0) (vs:=ints .i32 8 g) Pg.len ps ⟨g,ps[i].refs⟩ h (by rw[df];decide) (by
  simp only[cB,Pg.cells,take_zero,nil_append,df,Nat.zero_add];rw[List.drop_left' (df _ _ _)])
 rw[Nat.add_zero]at this;exact this
def Room (q b:Nat)(ps:List Pg):SP:=λh=>(ps.length≤200∧∀ p∈ps,p.refs<4611686018427387904)∧cm [aa q 224 [.slice (some ⟨b,0,none⟩) ps.length ps.length],aa b 227 (hQ ps)] h
theorem Room.open {W w:World}{L:List SP}{q b:Nat}{ps:List Pg}(I:U W w (Room q b ps::L)):(ps.length≤200∧∀ p∈ps,p.refs<4611686018427387904) ∧
   U W w (aa q 224 [.slice (some ⟨b,0,none⟩) ps.length ps.length]::aa b 227 (hQ ps)::L) :=
 ⟨I.tell λ_ h=>h.1,I.open λ_ h=>h.2⟩
theorem Room.close {W w:World}{L L' R:List SP}{q b n:Nat}{ps:List Pg}(I:U W w L)(hn:ps.length=n)(h:ps.length≤200∧∀ p∈ps,p.refs<4611686018427387904)
   [k:fD L (aa q 224 [.slice (some ⟨b,0,none⟩) n n]::aa b 227 (hQ ps)::L') R]:U W w (Room q b ps::L'):=by
 subst hn;exact U.shut (M:=[_,_]) (I.sub (M:=aa q 224 [.slice (some ⟨b,0,none⟩) ps.length ps.length]::aa b 227 (hQ ps)::L')) (λ_ x=>⟨h,x⟩)
theorem SR (n:Nat):(madeCells (Value.cells (.agg #[.int .i32 0,.int .i32 0,.int .i32 0,.int .i32 0,.int .i32 0,.int .i32 0,.int .i32 0,.int .i32 0,.int .i64 0])) (n*9)).toList=hQ (List.replicate n rV):=by
 apply ext_getElem?;intro i;by_cases hi:i<n*9
 ·obtain⟨j,k,hk,rfl⟩:∃ j k,k<9∧i=j*9+k:=⟨i/9,i%9,Nat.mod_lt _ (by decide),by omega⟩;have hj:j<(List.replicate n rV).length:=by simp;omega
  have hv:(Pg.cells rV)[k]?=some ((Pg.cells rV)[k]'(by rw[Pg.len];exact hk)):=aI _;rw[hQ,B5 Pg.len _ hj (by rw[List.getElem_replicate];exact hv)];simp only[madeCells,Value.cells,Array.toList_map,bm];rw[Array.toList_range,getElem?_range hi];have h1:(j*9+k)%9=k:=by omega
  simp only[Option.map_some,List.size_toArray,e7,length_nil,Nat.reduceAdd,h1,Option.some.injEq];rcases k with _ | _ | _ | _ | _ | _ | _ | _ | _ | k <;> first | rfl | omega
 ·rw[iH,iH]
  ·rw[vg];simp;omega
  ·simp[madeCells];omega
theorem SU {W w:World}{L:List SP}{n:Nat}(I:U W w L)(hn:n≤200) :
   Calls prog 124 #[.int .i64 n] w λe V=>∃ q b,e=.returned (pt q)∧U W V (Room q b (List.replicate n rV)::L):=by
 refine EN func124 ntmps124 rfl rfl λa E=>?_;refine RN 6 E I λa E=>?_;rw[show min (max (n:Int) 0) 200=(n:Int) from by omega]at E;refine qA E rfl I underlying222 Ty.t227 rfl (by omega) (by omega) λcG a w E I ho=>?_;clear ho;rw[SR]at I;refine BX 1 E I λb8 a w E I=>?_;refine RT 1 E I ?_;refine⟨b8,cG,rfl,(Room.close (n:=_) I jK ⟨by simp;exact hn,?_⟩)⟩;intro p hp;rw[(List.mem_replicate.1 hp).2];decide
section
variable {W w:World}{L:List SP}{q b i:Nat}{ps:List Pg}
theorem rX (I:U W w (Room q b ps::L))(hi:i<ps.length)(hr:0<ps[i].refs) :
   Calls prog 122 #[pt q,.int .i64 ((i:Int)+1)] w λe V=>e=.returned (.pointer (some ⟨b,i*9,none⟩))∧U W V (Room q b ps::L):=by
 obtain⟨hp,I⟩:=Room.open I;refine EN func122 ntmps122 rfl rfl λa E=>?_;refine RN 7 E I λa E=>?_;replace E:=E.aN 7;refine RN 4 E I λa E=>?_;rw[bn (by omega)]at E;refine RN 9 E I λa E=>?_;rw[bn (by omega)]at E;refine RN 6 E I λa E=>?_;rw[show (i:Int)+1-1=(i:Int) from by omega]at E;refine RN 2 E I λa E=>?_;refine bE E (cS E rfl (s:=20)) (ag E (I.bB (rW hi))) rfl λa E=>?_;refine RN 2 E I λa E=>?_;rw[bn (by omega)]at E;refine RN 8 E I λa E=>?_;rw[show (i:Int)+1-1=(i:Int) from by omega]at E;refine RT 2 E I ?_;exact⟨rfl,(Room.close (n:=_) I rfl hp)⟩
theorem U.HK {R:List SP}{e:Nat}(I:U W w L)[k:fC L b e (hQ ps) R](hi:i<ps.length):Rd w b (i*9) (ints .i32 8 ps[i].g):=by
 rw[← SO hi];exact I.pO 8
theorem U.SV {R:List SP}{e:Nat}(I:U W w L)[k:fC L b e (hQ ps) R](hi:i<ps.length):Rd w b (i*9) ps[i].cells:=by
 rw[← u9 Pg.len ps i hi];exact I.pO 9
theorem y7 (I:U W w (Room q b ps::L))(hi:i<ps.length)(hr:0<ps[i].refs) :
   Calls prog 86 #[pt q,.int .i64 ((i:Int)+1)] w λe V=>e=.returned (.int .i64 ps[i].refs)∧U W V (Room q b ps::L):=by
 refine EN func86 ntmps86 rfl rfl λa E=>?_;refine CL 5 E I (rX I hi hr) λa w E I=>?_;refine RN 5 E I λa E=>?_;replace E:=E.aN 10;refine RN 2 E I λa E=>?_;obtain⟨hp,I⟩:=Room.open I;refine RN 3 E I λa E=>?_;refine SS E (ag E (I.bB (rW hi))) λa E=>?_;refine RT 1 E I ?_;exact⟨rfl,(Room.close (n:=_) I rfl hp)⟩
theorem w3 {ps:List Pg}{i r:Nat}{g:Nat→Int}(hp:ps.length≤200∧∀ p∈ps,p.refs<4611686018427387904)(hr:r<4611686018427387904) :
   (ps.set i ⟨g,r⟩).length≤200∧∀ p∈ps.set i ⟨g,r⟩,p.refs<4611686018427387904:=by
 refine⟨by rw[br];exact hp.1,λp h=>?_⟩;rcases mem_or_eq_of_mem_set h with h | h
 ·exact hp.2 p h
 ·rw[h];exact hr
theorem SW (I:U W w (Room q b ps::L))(hi:i<ps.length)(hr:0<ps[i].refs)(hb:ps[i].refs+1<4611686018427387904) :
   Calls prog 208 #[pt q,.int .i64 ((i:Int)+1)] w λe V=>e=.returned (.bool true)∧U W V (Room q b (ps.set i ⟨ps[i].g,ps[i].refs+1⟩)::L):=by
 refine EN func208 ntmps208 rfl rfl λa E=>?_;refine CL 5 E I (rX I hi hr) λa w E I=>?_;refine RN 5 E I λa E=>?_;replace E:=E.ef 10;refine RN 1 E I λa E=>?_;obtain⟨hp,I⟩:=Room.open I;refine RN 3 E I λa E=>?_;refine SS E (ag E (I.bB (rW hi))) λa E=>?_;refine ST 3 E I (λa w E I=>?_) (hlt:=(by rw[vg];omega));rw[show ((ps[i].refs:Int)+1)=((ps[i].refs+1:Nat):Int) from rfl,HJ hi]at I;refine RT 4 E I ?_;exact⟨rfl,(Room.close (n:=ps.length) I br (w3 hp hb))⟩
theorem HL (I:U W w (Room q b ps::L))(hi:i<ps.length)(hr:0<ps[i].refs) :
   Calls prog 213 #[pt q,.int .i64 ((i:Int)+1)] w λe V=>e=.returned (.bool true)∧U W V (Room q b (ps.set i ⟨ps[i].g,ps[i].refs-1⟩)::L):=by
 refine EN func213 ntmps213 rfl rfl λa E=>?_;refine CL 5 E I (rX I hi hr) λa w E I=>?_;refine RN 5 E I λa E=>?_;replace E:=E.ef 10;refine RN 1 E I λa E=>?_;obtain⟨hp,I⟩:=Room.open I;have hb:=hp.2 _ (getElem_mem hi);refine RN 3 E I λa E=>?_;refine SS E (ag E (I.bB (rW hi))) λa E=>?_;refine ST 3 E I (λa w E I=>?_) (hlt:=(by rw[vg];omega));rw[show ((ps[i].refs:Int)-1)=((ps[i].refs-1:Nat):Int) from by omega,HJ hi]at I;refine RT 4 E I ?_;exact⟨rfl,(Room.close (n:=ps.length) I br (w3 hp (by omega)))⟩
theorem SY {k:Nat}(I:U W w (Room q b ps::L))(hi:i<ps.length)(hr:0<ps[i].refs)(hk:k<8) :
   Calls prog 323 #[pt q,.int .i64 ((i:Int)+1),.int .i64 k] w λe V=>e=.returned (.tuple #[.int .i32 (ps[i].g k),.bool true])∧U W V (Room q b ps::L):=by
 refine EN func323 ntmps323 rfl rfl λa E=>?_;refine CL 6 E I (rX I hi hr) λa w E I=>?_;refine RN 6 E I λa E=>?_;replace E:=E.aN 14;refine RN 4 E I λa E=>?_;rw[bn (by omega)]at E;refine RN 3 E I λa E=>?_;rw[bn (by omega)]at E;refine RN 2 E I λa E=>?_;obtain⟨hp,I⟩:=Room.open I;refine RN 5 E I λa E=>?_;refine SS E (ag E (I.bB (SL hi hk))) λa E=>?_;refine RT 2 E I ?_;exact⟨rfl,(Room.close (n:=_) I rfl hp)⟩
theorem Cn {k:Nat}{v:Int}(I:U W w (Room q b ps::L))(hi:i<ps.length)(hr:ps[i].refs=1)(hk:k<8) :
   Calls prog 128 #[pt q,.int .i64 ((i:Int)+1),.int .i64 k,.int .i32 v] w λe V=>e=.returned (.bool true)∧U W V (Room q b (ps.set i ⟨λj=>if j=k then v else ps[i].g j,1⟩)::L):=by
 refine EN func128 ntmps128 rfl rfl λa E=>?_;refine CL 5 E I (rX I hi (by omega)) λa w E I=>?_;refine RN 6 E I λa E=>?_;replace E:=E.aN 15;refine RN 4 E I λa E=>?_;rw[bn (by omega)]at E;refine RN 4 E I λa E=>?_;obtain⟨hp,I⟩:=Room.open I;rw[bn (by omega)]at E;refine RN 3 E I λa E=>?_;refine bE E (cS E rfl (s:=23)) (ag E (I.bB (rW hi))) rfl λa E=>?_;refine RN 2 E I λa E=>?_;rw[bn (by omega)]at E;refine ST 8 E I (λa w E I=>?_) (hlt:=(by rw[vg];omega));rw[SM hi hk,hr]at I;refine RT 2 E I ?_;exact⟨rfl,(Room.close (n:=ps.length) I br (w3 hp (by omega)))⟩
def tv (ps:List Pg)(i:Nat):Prop:=∃ h:i<ps.length,ps[i].refs=0∧∀ j,(hj:j<i)→0<ps[j].refs
def y8 (ps:List Pg):Prop:=∀ j,(h:j<ps.length)→0<ps[j].refs
theorem Co (ps:List Pg):y8 ps∨∃ i,tv ps i:=by
 have aux:∀ n,(∀ j,(h:j<ps.length)→j<n→0<ps[j].refs)∨∃ i,tv ps i:=by
  intro n
  induction n with
  | zero=>exact .inl λj _ h=>by omega
  | succ n ih =>
   rcases ih with h | h
   ·by_cases hn:n<ps.length
    ·by_cases h0:ps[n].refs=0
     ·exact .inr ⟨n,hn,h0,λj hj=>h j (by omega) hj⟩
     ·refine .inl λj hj pY=>?_;rcases Nat.lt_or_ge j n with h1 | h1
      ·exact h j hj h1
      ·obtain rfl:j=n:=by omega
       omega
    ·exact .inl λj hj pY=>h j hj (by omega)
   ·exact .inr h
 rcases aux ps.length with h | h
 ·exact .inl λj hj=>h j hj hj
 ·exact .inr h
theorem HM (I:U W w (Room q b ps::L))(hf:tv ps i) :
   Calls prog 126 #[pt q] w λe V=>e=.returned (.tuple #[.int .i64 ((i:Int)+1),.bool true])∧U W V (Room q b (ps.set i oV)::L):=by
 obtain⟨hi,h0,Cp⟩:=hf;obtain⟨hp,I⟩:=Room.open I;refine EN func126 ntmps126 rfl rfl λa E=>?_;refine RN 7 E I λa E=>?_;replace E:=E.aN 6;refine RN 9 E I λa E=>?_;refine aR (λμ a w=>∃ k:Nat,(μ=i-k∧k≤i)∧Fr a 34 [(0,pt q),(11,.int .i64 ps.length),(12,.int .i64 k)]∧U W w (aa q 224 [.slice (some ⟨b,0,none⟩) ps.length ps.length]::aa b 227 (hQ ps)::L)) (i) (⟨0,⟨by simp,by simp⟩,E.ab [0,11,12],I.sub⟩) ?_;clear E I;rintro μ a w ⟨k,⟨rfl,hk⟩,E,I⟩;refine RN 3 E I λa E=>?_;rw[dk (by omega)]at E;refine RN 13 E I λa E=>?_;refine SS E (ag E (I.bB (rW (by omega)))) λa E=>?_;refine IF 1 E I (λay a E=>?_) λay a E=>?_
 ·
  obtain rfl : k = i := by
      rcases Nat.lt_or_ge k i with h | h
      ·have:=Cp k h;omega
      ·omega
  refine RN 8 E I λa E=>?_;refine qt E rfl I Ty.t227 (by simp[Value.oneCell']) (by rw[vg];simp;omega) λa w E I=>?_;replace I:=I.jD b;change U W w (aa b 227 (cB (hQ ps) (k*9) oV.cells)::_) at I;rw[SN oV hi]at I;refine RT 5 E I ?_;exact⟨rfl,(Room.close (n:=ps.length) I br (w3 (g:=λ_=>0) (r:=1) hp (by omega)))⟩
 have Hf : k < i := by
     rcases Nat.lt_or_ge k i with h | h
     ·exact h
     ·obtain rfl:k=i:=by omega
      omega
 refine RN 2 E I λa E=>?_;exact⟨i-(k+1),by omega,k+1,⟨rfl,by omega⟩,E.ab [0,11,12],I.sub⟩
theorem SZ (I:U W w (Room q b ps::L))(hf:y8 ps) :
   Calls prog 126 #[pt q] w λe V=>e=.returned (.tuple #[.int .i64 0,.bool false])∧U W V (Room q b ps::L):=by
 obtain⟨hp,I⟩:=Room.open I;refine EN func126 ntmps126 rfl rfl λa E=>?_;refine RN 7 E I λa E=>?_;replace E:=E.aN 6;refine RN 9 E I λa E=>?_;refine aR (λμ a w=>∃ k:Nat,(μ=ps.length-k∧k≤ps.length)∧Fr a 34 [(0,pt q),(11,.int .i64 ps.length),(12,.int .i64 k)]∧U W w (aa q 224 [.slice (some ⟨b,0,none⟩) ps.length ps.length]::aa b 227 (hQ ps)::L)) (ps.length) (⟨0,⟨by simp,by simp⟩,E.ab [0,11,12],I.sub⟩) ?_;clear E I;rintro μ a w ⟨k,⟨rfl,hk⟩,E,I⟩;refine IF 3 E I (λao a E=>?_) λao a E=>?_
 ·
  refine RN 12 E I λa E=>?_;have ch:=hf k (by omega);refine SS E (ag E (I.bB (rW (by omega)))) λa E=>?_;refine RN 1 E I λa E=>?_;rw[bn (by omega)]at E;refine RN 3 E I λa E=>?_;exact⟨ps.length-(k+1),by omega,k+1,⟨rfl,by omega⟩,E.ab [0,11,12],I.sub⟩
 refine RT 3 E I ?_;exact⟨rfl,(Room.close (n:=_) I rfl hp)⟩
theorem S4 (I:U W w (Room q b ps::L))(hi:i<ps.length)(hr:0<ps[i].refs)(hf:y8 ps) :
   Calls prog 347 #[pt q,.int .i64 ((i:Int)+1)] w λe V=>e=.returned (.tuple #[.int .i64 0,.bool false])∧U W V (Room q b ps::L):=by
 refine EN func347 ntmps347 rfl rfl λa E=>?_;refine CL 6 E I (rX I hi hr) λa w E I=>?_;refine RN 5 E I λa E=>?_;replace E:=E.aN 13;refine CL 3 E I (SZ I hf) λa w E I=>?_;refine RN 8 E I λa E=>?_;replace E:=E.aN 19;refine RT 6 E I ?_;exact⟨rfl,I⟩
theorem S5 {k:Nat}(I:U W w (Room q b ps::L))(hi:i<ps.length)(hr:0<ps[i].refs)(hf:tv ps k) :
   Calls prog 347 #[pt q,.int .i64 ((i:Int)+1)] w λe V=>e=.returned (.tuple #[.int .i64 ((k:Int)+1),.bool true])∧U W V (Room q b (ps.set k ⟨ps[i].g,1⟩)::L):=by
 have hk:=hf.1;have bN:k≠i:=by
  rintro rfl;obtain⟨_,h,_⟩:=hf;omega
 have eH:k<(ps.set k oV).length:=by rw[br];exact hk
 have aJ:i<(ps.set k oV).length:=by rw[br];exact hi
 have e1:(ps.set k oV)[k]=oV:=by rw[getElem_set_self]
 have e2:(ps.set k oV)[i]=ps[i]:=by rw[List.getElem_set_ne bN]
 refine EN func347 ntmps347 rfl rfl λa E=>?_;refine CL 6 E I (rX I hi hr) λa w E I=>?_;refine RN 5 E I λa E=>?_;replace E:=E.aN 13;refine CL 3 E I (HM I hf) λa w E I=>?_;refine RN 8 E I λa E=>?_;replace E:=E.ef 19;refine aZ 1 (λw0 V=>Rd V b (i*9) (ints .i32 8 ps[i].g)) [2] [0,1,3,4,5,3006,1002,7,8,1009] E I λa w E I hH=>?_
 have hC : Rd w b (i * 9) (ints .i32 8 ps[i].g) := by
     have:=U.HK (b:=b) (e:=227) (Room.open I).2 aJ
     rwa [e2]at this
 refine RH 5 E I hH hC λa E=>?_;refine QH E (λw hc=>bT E underlying225 rfl Ty.t225 (hc)) hC λa E=>?_;refine RH 0 E I hH hC λa E=>?_;refine CL 0 E I (rX I eH (by rw[e1];decide)) λa w E I=>?_
 replace hC : (fun V => Rd V b (i * 9) (ints .i32 8 ps[i].g)) w := by
     have:=U.HK (b:=b) (e:=227) (Room.open I).2 aJ
     rwa [e2]at this
 refine RH 2 E I hH hC λa E=>?_;obtain⟨hp,I⟩:=Room.open I;refine qt E rfl I Ty.t225 tr (by rw[vg,df];omega) λa w E I=>?_;rw[SQ eH,set_set,e1,show oV.refs=1 from rfl]at I;refine RT 5 E I ?_;exact⟨rfl,(Room.close (n:=(ps.set k oV).length) I (by rw[br,br]) (by have:=w3 (g:=ps[i].g) (r:=1) (i:=k) hp (by decide);rwa [set_set]at this))⟩
def jL (ps:List Pg):Nat:=ps.countP λp=>decide (0<p.refs)
theorem vh (ps:List Pg):jL ps≤ps.length:=List.countP_le_length
theorem S6 {ps:List Pg}{k:Nat}(h:k<ps.length):jL (ps.take (k+1))=jL (ps.take k)+if 0<ps[k].refs then 1 else 0:=by
 rw[jL,iX h,List.countP_append,jL,List.countP_singleton];by_cases h:0<ps[k].refs <;> simp[h]
theorem HN (I:U W w (Room q b ps::L)) :
   Calls prog 84 #[pt q] w λe V=>e=.returned (.int .i64 (jL ps))∧U W V (Room q b ps::L):=by
 obtain⟨hp,I⟩:=Room.open I;refine EN func84 ntmps84 rfl rfl λa E=>?_;refine RN 6 E I λa E=>?_;replace E:=E.aN 7;refine RN 11 E I λa E=>?_;refine aR (λμ a w=>∃ k:Nat,(μ=ps.length-k∧k≤ps.length)∧Fr a 24 [(3,.int .i64 (jL (ps.take k))),(11,.slice (some ⟨b,0,none⟩) ps.length ps.length),(12,.int .i64 ps.length),(13,.int .i64 k)]∧U W w (aa q 224 [.slice (some ⟨b,0,none⟩) ps.length ps.length]::aa b 227 (hQ ps)::L)) (ps.length) (⟨0,⟨by simp,by simp⟩,E.ab [3,11,12,13],I.sub⟩) ?_;clear E I;rintro μ a w ⟨k,⟨rfl,hk⟩,E,I⟩;have nS:=vh (ps.take k);rw[et]at nS;refine IF 3 E I (λao a E=>?_) λao a E=>?_
 ·
  have mL:k<ps.length:=by omega
  have y9:=S6 mL;refine RN 3 E I λa E=>?_;refine SS E (bT E underlying227 rfl Ty.t227 (I.SV mL)) λa E=>?_;refine AL 0 E I λb5 a w E I=>?_;refine RN 0 E I λa E=>?_;refine qt E rfl I Ty.t227 (Pg.one _) (by rw[Pg.len];exact bf _) λa w E I=>?_;rw[show cB _ 0 ps[k].cells=ps[k].cells from by simp[cB,Pg.len]]at I;refine RN 2 E I λa E=>?_;refine SS E (ag E (I.bB (show ps[k].cells[8]?=some (.int .i64 ps[k].refs) from by simp[Pg.cells,df]))) λa E=>?_;refine IF 1 E I (λay a E=>?_) λay a E=>?_
  ·
   rw[ak (by omega)]at y9;refine RN 5 E I λa E=>?_;exact⟨ps.length-(k+1),by omega,k+1,⟨rfl,by omega⟩,by rw[y9];exact E.ab [3,11,12,13],I.sub⟩
  rw[ae (by omega)]at y9;refine RN 2 E I λa E=>?_;exact⟨ps.length-(k+1),by omega,k+1,⟨rfl,by omega⟩,by rw[y9];exact E.ab [3,11,12,13],I.sub⟩
 refine RT 3 E I ?_;obtain rfl:k=ps.length:=by omega
 rw[take_length];exact⟨rfl,(Room.close (n:=_) I rfl hp)⟩
theorem S7 (I:U W w (Room q b ps::L)) :
   Calls prog 166 #[pt q] w λe V=>e=.returned (.int .i64 ((ps.length-jL ps:Nat):Int))∧U W V (Room q b ps::L):=by
 have nS:=vh ps;have hp:=(Room.open I).1;refine EN func166 ntmps166 rfl rfl λa E=>?_;refine RN 6 E I λa E=>?_;replace E:=E.aN 4;refine aZ 2 (λw0 V=>V.cell? ⟨q,0,none⟩=some (.slice (some ⟨b,0,none⟩) ps.length ps.length)) [6] [0,1,2,5,3003,4,1006,7,8] E I λa w E I hH=>?_;have hC:=hH.at w ((Room.open I).2.bB rfl);refine RH 4 E I hH hC λa E=>?_;refine QH E (λw hc=>ag E (hc)) hC λa E=>?_;refine RH 1 E I hH hC λa E=>?_;refine CL 0 E I (HN I) λa w E I=>?_;replace hC:=hH.at w ((Room.open I).2.bB rfl);refine RH 2 E I hH hC λa E=>?_;refine RT 0 E I ?_;exact⟨by rw[show ((ps.length-jL ps:Nat):Int)=(ps.length:Int)-(jL ps:Int) from by omega],I⟩
end
end
section
def ly (es:Array MapEntry)(clock:Nat)(kvs:List (Int×Value)):Prop :=
 es.toList.map (λe=>(e.key,e.val))=kvs.map (λp=>(Value.int .i64 p.1,p.2))∧MapKept.Stamped es clock∧∀ p∈kvs,(Lit.int .i64 p.1).wf=true
def mp (b:Nat)(kvs:List (Int×Value)):SP:=λh=>∃ es clock,h b=some (.map es clock)∧ly es clock kvs
def mM:List (Int×Value)→Int→Nat→Option (Nat×Value)
 | [],_,_=>none
 | p::r,k,i=>if p.1=k then some (i,p.2) else mM r k (i+1)
theorem HO {kvs:List (Int×Value)}{k:Int}(h:∀ p∈kvs,p.1≠k):∀ i,mM kvs k i=none:=by
 induction kvs with
 | nil=>intro i;rfl
 | cons p r ih =>
  intro i;rw[mM,ae (h p mem_cons_self)];exact ih (λq hq=>h q (gO _ hq)) _
theorem S8 {kvs:List (Int×Value)}{k:Int}{v:Value}:∀ {j:Nat} (i:Nat),kvs[j]?=some (k,v)→(∀ j',j'<j→∀ p,kvs[j']?=some p→p.1≠k)→mM kvs k i=some (i+j,v):=by
 induction kvs with
 | nil=>intro j i h;simp at h
 | cons p r ih =>
  intro j i h hl;cases j with
  | zero=>simp at h;subst h;simp[mM]
  | succ j =>
   rw[mM,ae (hl 0 (by omega) p rfl),ih (i+1) (by simpa using h) (λj' hj q hq=>hl (j'+1) (by omega) q (by simpa using hq))];rw[show i+1+j=i+(j+1) from by omega]
theorem HP (k:Int):∀ (es:List MapEntry) (kvs:List (Int×Value)) (i:Nat),es.map (λe=>(e.key,e.val))=kvs.map (λp=>(Value.int .i64 p.1,p.2))→Instr.findNow (.int .i64) (.int .i64 k) es i=some (mM kvs k i)
 | [],[],i,_=>rfl
 | [],_::_,_,h=>by simp at h
 | _::_,[],_,h=>by simp at h
 | e::es,p::kvs,i,h=>by
  simp only[map_cons,List.cons.injEq,Prod.mk.injEq]at h;obtain⟨⟨h1,h2⟩,h3⟩:=h;simp only[Instr.findNow,h1,Instr.sameNow,mM];by_cases hk:p.1=k
  ·simp[hk,h2]
  ·have:(k==p.1)=false:=by simp;exact λe=>hk e.symm
   simp only[this,ae hk];exact HP k es kvs (i+1) h3
theorem w4 {α β:Type}(f:α→β)(l:List α)(i:Nat):(l.eraseIdx i).map f=(l.map f).eraseIdx i:=by
 simp only[eraseIdx_eq_take_drop_succ,cQ,map_take,map_drop]
section
variable {W w:World}{L:List SP}{b:Nat}{kvs:List (Int×Value)}
theorem U.za (I:U W w (mp b kvs::L)):∃ es clock,ly es clock kvs∧U W w (ku b (.map es clock)::L):=by
 obtain⟨⟨es,clock⟩,h1,h2⟩:=I.jo (ι:=Array MapEntry×Nat) (p:=λi=>ly i.1 i.2 kvs) (B:=λi=>ku b (.map i.1 i.2)) (λh ⟨es,clock,h1,h2⟩=>⟨(es,clock),h2,h1⟩);exact⟨es,clock,h1,h2⟩
theorem U.Cq {es:Array MapEntry}{clock:Nat}(I:U W w (ku b (.map es clock)::L))(h:ly es clock kvs):U W w (mp b kvs::L) :=
 U.shut (M:=[_]) I (λ_ x=>by
  obtain⟨_,_,_,a,_,y,_⟩:=x;exact⟨es,clock,a _ _ y,h⟩)
theorem ly.nil:ly #[] 0 []:=⟨rfl,⟨by simp,by simp,by simp⟩,by simp⟩
theorem ly.push {es:Array MapEntry}{clock:Nat}{k:Int}{v:Value}(h:ly es clock kvs)(hw:(Lit.int .i64 k).wf=true)(hn:∀ p∈kvs,p.1≠k):ly (es.push ⟨.int .i64 k,v,clock⟩) (clock+1) (kvs++[(k,v)]):=by
 obtain⟨h1,⟨h2,h3,h4⟩,h5⟩:=h;refine⟨by simp[h1],⟨λx hx=>?_,?_,?_⟩,λp hp=>?_⟩
 ·simp only[Array.toList_push,eM,mem_singleton]at hx;rcases hx with hx | rfl
  ·have:=h2 x hx;omega
  ·exact Nat.lt_succ_self _
 ·simp only[Array.toList_push,cQ,map_cons,map_nil];refine List.nodup_append.2 ⟨h3,by simp,λx hx y hy=>?_⟩;simp only[c1]at hx;obtain⟨e,he,rfl⟩:=hx;have:=h2 e he;simp at hy;omega
 ·simp only[Array.toList_push,cQ,map_cons,map_nil];refine List.nodup_append.2 ⟨h4,by simp,λx hx y hy=>?_⟩;simp only[c1]at hx;obtain⟨e,he,rfl⟩:=hx;have hm:(e.key,e.val)∈es.toList.map (λe=>(e.key,e.val)):=c1.2 ⟨e,he,rfl⟩;rw[h1]at hm;obtain⟨p,hp,oW⟩:=c1.1 hm;simp only[Prod.mk.injEq]at oW;simp at hy;rw[hy,← oW.1];intro e2;simp at e2;exact hn p hp e2
 ·rcases eM.1 hp with h | h
  ·exact h5 p h
  ·simp at h;subst h;exact hw
theorem ly.erase {es:Array MapEntry}{clock:Nat}(h:ly es clock kvs)(i:Nat):ly (es.eraseIdxIfInBounds i) clock (kvs.eraseIdx i):=by
 obtain⟨h1,⟨h2,h3,h4⟩,h5⟩:=h;have ht:(es.eraseIdxIfInBounds i).toList=es.toList.eraseIdx i:=by simp[Array.toList_eraseIdxIfInBounds]
 have hm:∀ {β:Type} (f:MapEntry→β),(es.toList.eraseIdx i).map f=(es.toList.map f).eraseIdx i:=λf=>w4 f _ i;refine⟨by rw[ht,hm,h1,w4],⟨λx hx=>h2 x (mem_of_mem_eraseIdx (ht ▸ hx)),?_,?_⟩,λp hp=>h5 p (mem_of_mem_eraseIdx hp)⟩
 ·rw[ht,hm];exact h3.sublist (List.eraseIdx_sublist _ _)
 ·rw[ht,hm];exact h4.sublist (List.eraseIdx_sublist _ _)
end
section
variable {P:Program}{ops:Array Oper}{Q:Exit→Act→World→Prop}{a:Act}{w V W:World}{K:Act→World→Prop}{n d:Nat}{l:List (Nat×Value)}{v:Value}{L R:List SP}{kvs:List (Int×Value)}
class rY (L:List SP)(b:Nat)(kvs:outParam (List (Int×Value)))(R:outParam (List SP)):Prop where perm:L.Perm (mp b kvs::R)
instance rY.head {L b kvs}:rY (mp b kvs::L) b kvs L:=⟨List.Perm.refl _⟩
instance (priority:=low) rY.tail {A L b kvs R}[h:rY L b kvs R]:rY (A::L) b kvs (A::R):=⟨(List.Perm.cons A h.perm).trans (List.Perm.swap _ _ _)⟩
theorem HQ {b:Nat}{es HR:Array MapEntry}{c c':Nat}(h:w.heap[b]?=some (.map es c)):(setObj b (.map HR c')).run P w=.ok () (ChangeMaps.setBlock w b (.map HR c')):=by
 simp only[setObj,Sem.run,h];rfl
theorem S9 {kt:TypeId}{em:Bool}{k:Int}(hk:P.underlying kt=some (.int .i64))(n:Nat):(Instr.checkKey em (n+1) kt (.int .i64 k)).run P w=.ok () w:=by
 simp only[Instr.checkKey,Sem.run_bind,eK hk,Result.andThen_ok];rfl
theorem Cr {kt:TypeId}{em:Bool}{k:Int}(hk:P.underlying kt=some (.int .i64)):(Instr.checkKey em 10000 kt (.int .i64 k)).run P w=.ok () w :=
 S9 hk 9999
theorem Cs {es:Array MapEntry}{clock:Nat}{kt:TypeId}{k:Int}(hk:P.underlying kt=some (.int .i64))(h:ly es clock kvs):(Instr.findKey kt (.int .i64 k) es.toList).run P w=.ok (mM kvs k 0) w:=by
 simp[Instr.findKey,eK hk,HP k es.toList kvs 0 h.1]
theorem Ta {t ty ps af g}(E:Fr a n l)(hw:Region.wanted ⟨some d,.makeMap t none,ty,ps,af,g⟩ (yielded ops a.tmps)=true)(I:U W w L)(hf:okB d n l=true)
   (h:∀ b a' V,Fr a' n ((d,.map (some b))::l)→U W V (mp b []::L)→Old w V→K a' V):cH P ops Q ⟨some d,.makeMap t none,ty,ps,af,g⟩ K a w:=by
 refine bE (v:=.map (some w.heap.size)) (V:=w.alloc (.map #[] 0)) E hw ?_ hf (λa' dc=>h _ _ _ dc (U.Cq (I.alloc (.map #[] 0)) ly.nil) (Old.alloc _ _));simp[execOp,Instr.makeMap,newObj,Sem.run]
theorem HS {x y b t kt rZ k z sz aX dst ty ps af g}{R:List SP}(E:Fr a n l)(ht:P.underlying t=some (.map kt rZ))(hk:P.underlying kt=some (.int .i64))(hi:TI P rZ z sz aX)(I:U W w L)
   [ev:Ev l x (.map (some b))] [gR:Ev l y (.int .i64 k)] [pk:rY L b kvs R] (hv:((mM kvs k 0).map (·.2)).getD z=v) :
   (execOp a.eval ⟨dst,.lookup t x y false,ty,ps,af,g⟩).run P w=.ok (.value v) w:=by
 obtain⟨es,clock,h1,h2⟩:=(I.perm pk.perm).za;have hg:=MapKept.run_getObj_map (P:=P) h2.has.2;have h3:(Instr.lookup t (.map (some b)) (.int .i64 k) false).run P w=.ok v w:=by
  simp only[Instr.lookup,Sem.run_bind,eK ht,Result.andThen_ok,hg];simp only[Sem.run_pure,Result.andThen_ok,Cr hk,Cs hk h1];cases hf:mM kvs k 0 with
  | none=>rw[hf]at hv;simp at hv;simp[ti hi,hv]
  | some p=>rw[hf]at hv;simp at hv;simp[hv]
 simp[execOp,ev.ev a n E,gR.ev a n E,h3]
theorem Tb {x y u b t kt rZ k ty ps af g}{R:List SP}(E:Fr a n l)(hw:Region.wanted ⟨none,.mapUpdate t x y u,ty,ps,af,g⟩ (yielded ops a.tmps)=true)(I:U W w L)
   (ht:P.underlying t=some (.map kt rZ)) (hk:P.underlying kt=some (.int .i64)) [ev:Ev l x (.map (some b))] [gR:Ev l y (.int .i64 k)] [tk:Ev l u v] [pk:rY L b kvs R]
   (zb:(Lit.int .i64 k).wf=true) (hn:∀ p∈kvs,p.1≠k)
   (h:∀ a' V,Fr a' n l→U W V (mp b (kvs++[(k,v)])::R)→K a' V):cH P ops Q ⟨none,.mapUpdate t x y u,ty,ps,af,g⟩ K a w:=by
 obtain⟨es,clock,h1,h2⟩:=(I.perm pk.perm).za;have hg:=MapKept.run_getObj_map (P:=P) h2.has.2;have hb:b<w.heap.size:=(Array.getElem?_eq_some_iff.1 h2.has.2).1;have h3:(Instr.mapUpdate t (.map (some b)) (.int .i64 k) v).run P w=.ok () (ChangeMaps.setBlock w b (.map (es.push ⟨.int .i64 k,v,clock⟩) (clock+1))):=by
  simp only[Instr.mapUpdate,Sem.run_bind,eK ht,Result.andThen_ok,hg];simp only[Sem.run_pure,Result.andThen_ok,Cr hk,Cs hk h1,HO hn];simp[HQ h2.has.2]
 have h4:=h2.cd (o':=.map (es.push ⟨.int .i64 k,v,clock⟩) (clock+1)) (V:=ChangeMaps.setBlock w b (.map (es.push ⟨.int .i64 k,v,clock⟩) (clock+1))) rfl rfl rfl rfl;refine BN (V:=ChangeMaps.setBlock w b (.map (es.push ⟨.int .i64 k,v,clock⟩) (clock+1))) E hw ?_ (λa' dc=>h a' _ dc (h4.Cq (h1.push zb hn)));simp[execOp,ev.ev a n E,gR.ev a n E,tk.ev a n E,h3]
theorem Tc {x y b t kt rZ k i ty ps af g}{R:List SP}(E:Fr a n l)(hw:Region.wanted ⟨none,.call ⟨.builtin .delete,#[x,y],#[t,kt]⟩,ty,ps,af,g⟩ (yielded ops a.tmps)=true)(I:U W w L)
   (ht:P.underlying t=some (.map kt rZ)) (hk:P.underlying kt=some (.int .i64)) [ev:Ev l x (.map (some b))] [gR:Ev l y (.int .i64 k)] [pk:rY L b kvs R] (hi:mM kvs k 0=some (i,v))
   (h:∀ a' V,Fr a' n l→U W V (mp b (kvs.eraseIdx i)::R)→K a' V):cH P ops Q ⟨none,.call ⟨.builtin .delete,#[x,y],#[t,kt]⟩,ty,ps,af,g⟩ K a w:=by
 obtain⟨es,clock,h1,h2⟩:=(I.perm pk.perm).za;have hg:=MapKept.run_getObj_map (P:=P) h2.has.2;have hb:b<w.heap.size:=(Array.getElem?_eq_some_iff.1 h2.has.2).1;have h3:(Builtin.delete_ #[t,kt] ty #[.map (some b),.int .i64 k]).run P w=.ok (.tuple #[]) (ChangeMaps.setBlock w b (.map (es.eraseIdxIfInBounds i) clock)):=by
  simp only[Builtin.delete_,getElem?_toArray,List.getElem?_cons_zero,getElem?_cons_succ];simp only[Sem.run_bind,eK ht,Result.andThen_ok,hg];simp only[Sem.run_pure,Result.andThen_ok,Cr hk,Cs hk h1,hi];simp[HQ h2.has.2]
 have h4:=h2.cd (o':=.map (es.eraseIdxIfInBounds i) clock) (V:=ChangeMaps.setBlock w b (.map (es.eraseIdxIfInBounds i) clock)) rfl rfl rfl rfl;refine BM (v:=.tuple #[]) (V:=ChangeMaps.setBlock w b (.map (es.eraseIdxIfInBounds i) clock)) E hw ?_ (λa' dc=>h a' _ dc (h4.Cq (h1.erase i)));simp[execOp,resolve,ev.ev a n E,gR.ev a n E,invoke,builtin,h3]
end
end
section
open Go.RowKit Go.Maps Go.Sort Go.Shelf
def Lay.HT:Go.Shelf.Ren:=⟨fun | 7=>119 | 10=>164 | n=>n,fun | 23=>218 | 26=>166 | 3=>219 | 28=>216 | 0=>0 | 27=>215 | 33=>284 | 4=>4 | n=>n,fun | n=>n⟩
theorem Lay.HU:Go.Proofs.SlLaysZI.n7 prog Lay.HT:={
 mixed:=by kernel_rfl
 f7:=⟨f119.name,by decide,func119.trans (congrArg some (by kernel_rfl))⟩
 f10:=⟨f164.name,by decide,func164.trans (congrArg some (by kernel_rfl))⟩
 t0:=underlying0
 a0:=isAgg0
 z0:=sizeOf0
 v0:=zeroValue0
 t4:=underlying4
 a4:=isAgg4
 z4:=sizeOf4
 v4:=zeroValue4
 t23:=underlying218
 a23:=isAgg218
 z23:=sizeOf218
 v23:=zeroValue218
 t26:=underlying166
 a26:=isAgg166
 z26:=sizeOf166
 v26:=zeroValue166
 t27:=underlying215
 a27:=isAgg215
 z27:=sizeOf215
 v27:=zeroValue215
 t28:=underlying216
 a28:=isAgg216
 z28:=sizeOf216
 v28:=zeroValue216
 t33:=underlying284
 a33:=isAgg284
 z33:=sizeOf284
 v33:=zeroValue284 }
def Lay.HV:Go.Shelf.Ren:=⟨fun | 6=>118 | 8=>162 | 9=>163 | 11=>194 | 13=>196 | 12=>195 | 23=>226 | 24=>227 | 14=>217 | 15=>218 | 16=>219 | 17=>220 | 18=>221 | 19=>222 | 20=>223 | 21=>224 | 22=>225 | 25=>233 | 26=>234 | 27=>235 | 28=>236 | 29=>237 | 30=>238 | 31=>243 | n=>n,fun | 26=>166 | 28=>216 | 24=>160 | 0=>0 | 3=>3 | 37=>314 | 48=>100 | 50=>319 | 4=>4 | 40=>352 | 39=>351 | 45=>248 | 5=>5 | 9=>9 | 51=>366 | 55=>370 | 57=>375 | 58=>376 | 33=>284 | n=>n,fun | n=>n⟩
theorem Lay.Td:Go.Proofs.SlLaysZI.n6 prog Lay.HV:={
 mixed:=by kernel_rfl
 f6:=⟨f118.name,by decide,func118.trans (congrArg some (by kernel_rfl))⟩
 f8:=⟨f162.name,by decide,func162.trans (congrArg some (by kernel_rfl))⟩
 f11:=⟨f194.name,by decide,func194.trans (congrArg some (by kernel_rfl))⟩
 t0:=underlying0
 a0:=isAgg0
 z0:=sizeOf0
 v0:=zeroValue0
 t24:=underlying160
 a24:=isAgg160
 z24:=sizeOf160
 v24:=zeroValue160
 t26:=underlying166
 a26:=isAgg166
 z26:=sizeOf166
 v26:=zeroValue166
 t28:=underlying216
 a28:=isAgg216
 z28:=sizeOf216
 v28:=zeroValue216
 i26:=by kernel_rfl }
def Lay.Te:Go.Shelf.Ren:=⟨fun | 5=>163 | 8=>196 | 7=>195 | 19=>226 | 20=>227 | 10=>217 | 11=>218 | 12=>219 | 13=>220 | 14=>221 | 15=>222 | 16=>223 | 17=>224 | 18=>225 | 30=>233 | 31=>234 | 32=>235 | 33=>236 | 34=>237 | 35=>238 | 40=>243 | n=>n,fun | 23=>160 | 25=>166 | 3=>3 | 32=>314 | 22=>160 | 0=>0 | 44=>100 | 46=>319 | 4=>4 | 36=>352 | 35=>351 | 41=>248 | 5=>5 | 9=>9 | 53=>366 | 57=>370 | 63=>375 | 64=>376 | n=>n,fun | n=>n⟩
theorem Lay.HW:Go.Proofs.SlLaysM.n5 prog Lay.Te:={
 mixed:=by kernel_rfl
 f5:=⟨f163.name,by decide,func163.trans (congrArg some (by kernel_rfl))⟩
 f7:=⟨f195.name,by decide,func195.trans (congrArg some (by kernel_rfl))⟩
 f8:=func196.trans (congrArg some (by kernel_rfl))
 f10:=⟨f217.name,by decide,func217.trans (congrArg some (by kernel_rfl))⟩
 f11:=⟨f218.name,by decide,func218.trans (congrArg some (by kernel_rfl))⟩
 f12:=⟨f219.name,by decide,func219.trans (congrArg some (by kernel_rfl))⟩
 f13:=⟨f220.name,by decide,func220.trans (congrArg some (by kernel_rfl))⟩
 f14:=⟨f221.name,by decide,func221.trans (congrArg some (by kernel_rfl))⟩
 f15:=⟨f222.name,by decide,func222.trans (congrArg some (by kernel_rfl))⟩
 f16:=⟨f223.name,by decide,func223.trans (congrArg some (by kernel_rfl))⟩
 f17:=⟨f224.name,by decide,func224.trans (congrArg some (by kernel_rfl))⟩
 f18:=⟨f225.name,by decide,func225.trans (congrArg some (by kernel_rfl))⟩
 f19:=func226.trans (congrArg some (by kernel_rfl))
 f20:=func227.trans (congrArg some (by kernel_rfl))
 f30:=⟨f233.name,by decide,func233.trans (congrArg some (by kernel_rfl))⟩
 f31:=func234.trans (congrArg some (by kernel_rfl))
 f32:=func235.trans (congrArg some (by kernel_rfl))
 f33:=⟨f236.name,by decide,func236.trans (congrArg some (by kernel_rfl))⟩
 f34:=⟨f237.name,by decide,func237.trans (congrArg some (by kernel_rfl))⟩
 f35:=⟨f238.name,by decide,func238.trans (congrArg some (by kernel_rfl))⟩
 f40:=⟨f243.name,by decide,func243.trans (congrArg some (by kernel_rfl))⟩
 t0:=underlying0
 a0:=isAgg0
 z0:=sizeOf0
 v0:=zeroValue0
 t3:=underlying3
 a3:=isAgg3
 z3:=sizeOf3
 v3:=zeroValue3
 t4:=underlying4
 a4:=isAgg4
 z4:=sizeOf4
 v4:=zeroValue4
 t5:=underlying5
 a5:=isAgg5
 z5:=sizeOf5
 v5:=zeroValue5
 t9:=underlying9
 a9:=isAgg9
 z9:=sizeOf9
 v9:=zeroValue9
 t22:=underlying160
 a22:=isAgg160
 z22:=sizeOf160
 v22:=zeroValue160
 t23:=underlying160
 a23:=isAgg160
 z23:=sizeOf160
 v23:=zeroValue160
 t25:=underlying166
 a25:=isAgg166
 z25:=sizeOf166
 v25:=zeroValue166
 t32:=underlying314
 a32:=isAgg314
 z32:=sizeOf314
 v32:=zeroValue314
 t35:=underlying351
 a35:=isAgg351
 z35:=sizeOf351
 v35:=zeroValue351
 t36:=underlying352
 a36:=isAgg352
 z36:=sizeOf352
 v36:=zeroValue352
 t41:=underlying248
 a41:=isAgg248
 z41:=sizeOf248
 v41:=zeroValue248
 t44:=underlying100
 a44:=isAgg100
 z44:=sizeOf100
 v44:=zeroValue100
 t46:=underlying319
 a46:=isAgg319
 z46:=sizeOf319
 v46:=zeroValue319
 t53:=underlying366
 a53:=isAgg366
 z53:=sizeOf366
 v53:=zeroValue366
 t57:=underlying370
 a57:=isAgg370
 z57:=sizeOf370
 v57:=zeroValue370
 t63:=underlying375
 a63:=isAgg375
 z63:=sizeOf375
 v63:=zeroValue375
 t64:=underlying376
 a64:=isAgg376
 z64:=sizeOf376
 v64:=zeroValue376 }
theorem Lay.Tf (m:Nat):AnyZI.SortsIn prog Lay.HV Fence.wide m :=
 ⟨λaa off cap ss W hH Tg aE=>callsIn_wide.2 (AnyM.slices_Sort_int Lay.HW aa off cap ss W hH Tg aE),
  λp cap W=>callsIn_wide.2 (AnyM.slices_Sort_int_none Lay.HW p cap W)⟩
def nn:Value→Option (DataW Unit×List MemPlace):=λ_=>some (.lit (.bool true),[])
theorem Th {es:Array MapEntry}{clock:Nat}{kvs:List (Int×Value)}(h:ly es clock kvs)(hl:kvs.length≤maxLen):WideElems.Fit prog 166 nn es clock:=by
 obtain⟨h1,h2,h3⟩:=h;have hlen:es.size=kvs.length:=by have:=congrArg List.length h1;simpa using this
 refine⟨by omega,h2,λx hx=>?_⟩;have hm:(x.key,x.val)∈es.toList.map (λe=>(e.key,e.val)):=c1.2 ⟨x,hx,rfl⟩;rw[h1]at hm;obtain⟨p,hp,oW⟩:=c1.1 hm;simp only[Prod.mk.injEq]at oW;refine⟨(.int .i64 p.1,.lit (.bool true)),?_⟩;simp[WideElems.rd,← oW.1,keyOf_int_mk underlying166 (h3 p hp),nn]
theorem mapKeys {es:Array MapEntry}{clock:Nat}{kvs:List (Int×Value)}(h:ly es clock kvs):(intKeys (DataW.map ((es.toList.map (WideElems.rg prog 166 nn)).foldr DataW.insert []))).Perm (kvs.map (·.1)):=by
 have hp:=WideShapes.sorted_perm (es.toList.map (WideElems.rg prog 166 nn));have h4:(es.toList.map (WideElems.rg prog 166 nn)).map (λp=>Go.intOf p.1)=kvs.map (·.1):=by
  obtain⟨h1,_,h3⟩:=h
  have : ∀ (l : List MapEntry) (m : List (Int × Value)), l.map (fun e => (e.key, e.val)) = m.map (fun p => (Value.int .i64 p.1, p.2)) → (∀ p ∈ m, (Lit.int .i64 p.1).wf = true) →
      (l.map (WideElems.rg prog 166 nn)).map (λp=>Go.intOf p.1)=m.map (·.1):=by
   intro l
   induction l with
   | nil=>intro m h _;cases m with
    | nil=>rfl
    | cons=>simp at h
   | cons e l ih =>
    intro m h hw;cases m with
    | nil=>simp at h
    | cons p m =>
     simp only[map_cons,List.cons.injEq,Prod.mk.injEq]at h;simp only[map_cons,ih m h.2 (λq hq=>hw q (gO _ hq))];have hr:WideElems.rg prog 166 nn e=(Lit.int .i64 p.1,(DataW.lit (.bool true):DataW Unit)):=by
      simp only[WideElems.rg,WideElems.rd,h.1.1,keyOf_int_mk underlying166 (hw p mem_cons_self),nn,Option.bind_some,Option.map_some,Option.getD_some]
     rw[hr];rfl
  exact this _ _ h1 h3
 have:=hp.map (λp:Lit×DataW Unit=>Go.intOf p.1);rw[h4]at this;exact this
section
variable {W w:World}{L:List SP}{m:Nat}{kvs:List (Int×Value)}
theorem Ti (I:U W w L):Calls prog 119 #[.map (some m)] w λe V =>
   ∃ b,e=.returned (.func (.func 164) #[] #[pt b])∧U W V (aa b 218 [.map (some m)]::L):=by
 have h:=AnyZI.keys_in Lay.HU Fence.wide 5 trivial rfl (some m) w;refine (callsIn_wide.1 h).mono λe V ⟨h1,h2⟩=>?_;subst h2;exact⟨_,h1,I.alloc _⟩
theorem Tj {ss ks:List Int}(hp:ss.Perm ks)(hk:ks.Pairwise (· < ·)):ss.mergeSort (λx y=>decide (x≤y))=ks:=by
 have h1:=List.pairwise_mergeSort (le:=λx y:Int=>decide (x≤y)) (λa b c h1 h2=>by simp at *;omega) (λa b=>by simp;omega) ss;refine List.Perm.eq_of_pairwise (le:=λx y:Int=>decide (x≤y)=true) (λa b _ _ h1 h2=>by simp at *;omega) h1 (hk.imp λh=>by simp;omega) ((List.mergeSort_perm _ _).trans hp)
theorem U.ownsRow {V:World}{e sz:Nat}{v:Value}{n:Nat}{xs:List Value}(I:U W w L)(hb:Below w.heap.size w V)(hr:V.ownsRow w.heap.size e sz v n xs) :
   ∃ ad c,v=.slice ad n c∧U W V (Sl e sz ad n c xs::L):=by
 obtain⟨zc,h,p,q⟩:=I;have hB:Below W.heap.size W V:=zc.trans ⟨hb.os,hb.tape,hb.output,hb.size,λk hk=>hb.block k (wO hk zc.size)⟩;have HX:∀ n o,h n=some o→W.heap.size≤n∧V.heap[n]?=some o:=λn o ho=>by
  obtain⟨h1,h2⟩:=p n o ho;refine⟨h1,?_⟩;rw[hb.block n (Array.getElem?_eq_some_iff.1 h2).1];exact h2
 have gQ:U W V L:=⟨hB,h,HX,q⟩;obtain⟨hl,hr⟩:=hr;rcases hr with ⟨rfl,hn⟩ | ⟨g,cap,cur,rfl,hg,hc,Ct,_,aE,ht⟩
 ·subst hn;refine⟨none,0,rfl,?_⟩;obtain rfl:xs=[]:=g5 (by rw[hl,Nat.zero_mul]);exact gQ.bM _ _ _
 ·have zd : h g = none := by
   cases he:h g with
   | none=>rfl
   | some x =>
    have:=(Array.getElem?_eq_some_iff.1 (p g x he).2).1;omega
  refine⟨some ⟨g,0,none⟩,cap,rfl,?_⟩;have h2:U W V (aa g e ([]++xs++cur.toList.drop (n*sz))::L):=by
   refine⟨hB,λk=>if k=g then some (.cells cur e (0,0)) else h k,λk o ho=>?_,λk=>if k=g then some (.cells cur e (0,0)) else none,h,λk=>?_,λk o ho=>?_,λk o ho=>?_,?_,q⟩
   ·by_cases hk:k=g
    ·simp[hk]at ho;subst ho;subst hk;exact⟨gN zc.size hg,hc⟩
    ·simp[hk]at ho;exact HX k o ho
   ·by_cases hk:k=g
    ·right;rw[hk];exact zd
    ·left;simp[hk]
   ·by_cases hk:k=g <;> simp[hk]at ho ⊢;exact ho
   ·by_cases hk:k=g
    ·rw[hk,zd]at ho;cases ho
    ·simp[hk,ho]
   ·have : ([] ++ xs ++ cur.toList.drop (n * sz)).toArray = cur := by
     rw[← ht];simp
    simp only[aa,ku,this,if_true]
  have hlen:xs.length+(cur.toList.drop (n*sz)).length=cap*sz:=by
   have:(cur.toList).length=cap*sz:=by simpa using aE
   rw[c6,this,hl];have:=Nat.mul_le_mul_right sz Ct;omega
  have h3:=U.iG (pre:=[]) (cs:=xs) (n:=n) (c:=cap) (sz:=sz) h2 hl Ct (by rw[Nat.sub_mul];omega);simpa using h3
theorem Tk {b:Nat}(I:U W w (aa b 218 [.map (some m)]::mp m kvs::L))(hk:(kvs.map (·.1)).Pairwise (· < ·))(hl:kvs.length≤1099511627776) :
   Calls prog 118 #[.func (.func 164) #[] #[pt b]] w λe V =>
   ∃ ad c,e=.returned (.slice ad kvs.length c)∧U W V (Sl 166 1 ad kvs.length c (kvs.map λp=>.int .i64 p.1)::mp m kvs::L):=by
 have dx:=I.tail;obtain⟨es,clock,hm,tw⟩:=dx.za;have Tm:(1099511627776:Nat)≤maxLen:=by unfold maxLen;omega
 have aE:es.size=kvs.length:=by have:=congrArg List.length hm.1;simpa using this
 have hF:=Th hm (gN hl Tm);have ze:w.ownsMap prog 166 nn m es.size (.map ((es.toList.map (WideElems.rg prog 166 nn)).foldr DataW.insert [])):=⟨es,clock,tw.has.2,hF,bf _,rfl⟩;have hD:Maps.size (DataW.map ((es.toList.map (WideElems.rg prog 166 nn)).foldr DataW.insert []))≤kvs.length:=by rw[← aE];exact ze.size_le
 have k0:w.cell? ⟨b,0,none⟩=some (.map (some m)):=I.cell 0;have hb:b<w.heap.size:=World.block_lt_of_cell? _ _ k0;have Tn:SeqGives Fence.wide 2 prog 164 #[pt b] encZ (λss=>ss.Perm (intKeys (DataW.map ((es.toList.map (WideElems.rg prog 166 nn)).foldr DataW.insert [])))) (Maps.size (DataW.map ((es.toList.map (WideElems.rg prog 166 nn)).foldr DataW.insert []))) w :=
  AnyZI.keys_gives (ρ:=Lay.HT) { Lay.HU with } Fence.wide _ trivial rfl (by omega) b m _ _ w hb k0 ze
 have vi:=AnyZI.sorted_in Lay.Td Fence.wide 5 trivial trivial trivial trivial rfl (by omega) (Lay.Tf _) (enters_of func163 (by kernel_rfl) rfl)
  164 #[pt b] trivial
  (enters_of func164 (by kernel_rfl) rfl) _ _ (by omega) (by omega) _ Tn
 refine (callsIn_wide.1 vi).mono λe V ⟨v,ss,h1,h2,h3,_,h5⟩=>?_;subst h1;have hp:=h2.trans (mapKeys hm);rw[Tj hp hk]at h3;have hlen:ss.length=kvs.length:=by have:=hp.length_eq;simpa using this
 rw[hlen]at h3;obtain⟨ad,c,rfl,h6⟩:=dx.ownsRow h5 h3;refine⟨ad,c,rfl,?_⟩;have h7:(kvs.map (·.1)).map encZ=kvs.map λp=>Value.int .i64 p.1:=by simp[encZ,Function.comp_def]
 rw[h7]at h6;exact h6
end
end
section
structure aC where
 id:Nat
 refs:Nat
 g:Nat→Int
 p:Nat→Nat
structure Sn where
 last:Nat
 room:Nat
 n:Nat
 au:List aC
def aC.cells (x:aC):List Value:=ints .i64 4 (λk=>(x.p k:Int)+1)++[.int .i64 x.refs]
theorem aC.len (x:aC):x.cells.length=5:=by simp[aC.cells,df]
instance {x:aC}:lU x.cells 5:=⟨x.len⟩
theorem aC.at {x:aC}{k:Nat}(h:k<4):x.cells[k]?=some (.int .i64 ((x.p k:Int)+1)):=by
 rw[aC.cells,lS (by rw[df];exact h),fO _ h]
theorem aC.ref {x:aC}:x.cells[4]?=some (.int .i64 x.refs):=by simp[aC.cells,df]
theorem aC.Cu {x:aC}{r:Nat}:x.cells.set 4 (.int .i64 r)=aC.cells { x with refs:=r }:=by
 rw[aC.cells,set_append_right _ _ (by rw[df];exact bf _),df];rfl
theorem aC.To {x:aC}{k f:Nat}(h:k<4)(g:Nat→Int):x.cells.set k (.int .i64 ((f:Int)+1))=aC.cells { x with p:=λj=>if j=k then f else x.p j,g:=g }:=by
 rw[aC.cells,set_append_left _ _ (by rw[df];exact h),ints_set,aC.cells]
 congr 1
 refine wW λj _=>?_;by_cases hj:j=k <;> simp[hj]
def iK (x:aC)(p m:Nat):Nat:=(List.range m).countP λk=>decide (x.p k=p)
def g6 (x:aC)(p:Nat):Nat:=iK x p 4
def cJ (l:List aC)(p:Nat):Nat:=(l.map λx=>g6 x p).sum
def Sn.used (A:Sn):Nat:=(List.range A.room).countP λp=>decide (0<cJ A.au p)
theorem zf (x:aC)(p:Nat):iK x p 0=0:=rfl
theorem kC (x:aC)(p m:Nat):iK x p (m+1)=iK x p m+if x.p m=p then 1 else 0:=by
 rw[iK,range_succ,List.countP_append,List.countP_singleton,iK];by_cases h:x.p m=p <;> simp[h]
theorem tx (x:aC)(p:Nat):g6 x p=(if x.p 0=p then 1 else 0)+(if x.p 1=p then 1 else 0)+(if x.p 2=p then 1 else 0)+(if x.p 3=p then 1 else 0):=by
 rw[g6,kC,kC,kC,kC,zf,Nat.zero_add]
theorem r0 (x:aC)(p:Nat){m n:Nat}(h:m≤n):iK x p m≤iK x p n:=by
 induction n with
 | zero => obtain rfl : m = 0 := by omega
           exact bf _
 | succ n ih =>
  rcases Nat.lt_or_ge n m with h1 | h1
  ·obtain rfl:m=n+1:=by omega
   exact bf _
  ·have:=ih h1;rw[kC];omega
theorem HY (x:aC)(p:Nat):g6 x p≤4:=by have:=List.countP_le_length (p:=λk=>decide (x.p k=p)) (l:=List.range 4);simpa [g6,iK] using this
theorem r4 {x:aC}{k:Nat}(h:k<4):0<g6 x (x.p k):=by
 have h1:=r0 x (x.p k) (m:=k+1) (n:=4) (by omega);rw[kC,ak rfl]at h1;show 0<iK x (x.p k) 4;omega
theorem Tp {x:aC}{k k':Nat}(h:k<4)(h':k'<4)(hn:k≠k')(he:x.p k=x.p k'):2≤g6 x (x.p k):=by
 rcases Nat.lt_or_gt_of_ne hn with hl | hl
 ·have h1:=r0 x (x.p k) (m:=k'+1) (n:=4) (by omega);have h2:=r0 x (x.p k) (m:=k+1) (n:=k') (by omega);rw[kC,ak he.symm]at h1;rw[kC,ak rfl]at h2;show 2≤iK x (x.p k) 4;omega
 ·have h1:=r0 x (x.p k) (m:=k+1) (n:=4) (by omega);have h2:=r0 x (x.p k) (m:=k'+1) (n:=k) (by omega);rw[kC,ak rfl]at h1;rw[kC,ak he.symm]at h2;show 2≤iK x (x.p k) 4;omega
theorem Cv {x:aC}{p:Nat}(h:∀ k,k<4→x.p k≠p):g6 x p=0:=by
 rw[tx,ae (h 0 (by omega)),ae (h 1 (by omega)),ae (h 2 (by omega)),ae (h 3 (by omega))]
theorem HZ {x:aC}{p:Nat}:0<g6 x p ↔ ∃ k,k<4∧x.p k=p:=by
 constructor
 ·intro h;by_cases h0:∃ k,k<4∧x.p k=p
  ·exact h0
  ·rw[Cv λk hk e=>h0 ⟨k,hk,e⟩]at h;omega
 ·rintro⟨k,hk,rfl⟩;exact r4 hk
theorem H0 {x y:aC}(h:∀ k,k<4→x.p k=y.p k)(p:Nat):g6 x p=g6 y p:=by
 rw[tx,tx,h 0 (by omega),h 1 (by omega),h 2 (by omega),h 3 (by omega)]
theorem Cw (p:Nat):cJ [] p=0:=rfl
theorem r5 (x:aC)(l:List aC)(p:Nat):cJ (x::l) p=g6 x p+cJ l p:=by simp[cJ]
theorem w5 (l m:List aC)(p:Nat):cJ (l++m) p=cJ l p+cJ m p:=by simp[cJ]
theorem w6 {l:List aC}{i:Nat}(h:i<l.length)(p:Nat):cJ l p=g6 l[i] p+cJ (l.eraseIdx i) p:=by
 have h0:l=l.take i++l[i]::l.drop (i+1):=by rw[← ka h,jE]
 rw[eraseIdx_eq_take_drop_succ,w5]
 conv=>lhs;rw[h0,w5,r5]
 omega
theorem Cx {l:List aC}{i:Nat}(h:i<l.length)(x:aC)(p:Nat):cJ (l.set i x) p+g6 l[i] p=cJ l p+g6 x p:=by
 have h1:=w6 h p;have h2:=w6 (l:=l.set i x) (i:=i) (by simpa using h) p;rw[getElem_set_self,eraseIdx_set_eq]at h2;omega
theorem tz {l:List aC}{x:aC}(h:x∈l)(p:Nat):g6 x p≤cJ l p:=by
 obtain⟨i,hi,rfl⟩:=List.mem_iff_getElem.1 h;have:=w6 hi p;omega
theorem Cy (l:List aC)(p:Nat):cJ l p≤4*l.length:=by
 induction l with
 | nil=>simp[cJ]
 | cons x l ih=>rw[r5,e7];have:=HY x p;omega
structure Rel (A:Sn)(ps:List Pg):Prop where
 len:ps.length=A.room
 refs:∀ p q,ps[p]?=some q→q.refs=cJ A.au p
 oX:∀ x∈A.au,∀ k,k<4→∃ q,ps[x.p k]?=some q∧∀ j,j<8→q.g j=x.g (8*k+j)
structure WF (A:Sn):Prop where
 room:A.room≤200
 bound:A.n<1099511627776
 last:A.last≤A.n
 many:A.au.length≤A.n
 sorted:(A.au.map (·.id)).Pairwise (· < ·)
 lZ:∀ x∈A.au,1≤x.id∧x.id≤A.last∧1≤x.refs∧x.refs≤A.n
theorem Rel.ok {A:Sn}{ps:List Pg}(h:Rel A ps)(hw:WF A):ps.length≤200∧∀ p∈ps,p.refs<4611686018427387904:=by
 refine⟨h.len ▸ hw.room,λq hq=>?_⟩;obtain⟨i,hi,rfl⟩:=List.mem_iff_getElem.1 hq;rw[h.refs i _ (aI hi)];have:=Cy A.au i;have:=hw.many;have:=hw.bound;omega
theorem Rel.used {A:Sn}{ps:List Pg}(h:Rel A ps):jL ps=A.used:=by
 have e:ps=(List.range ps.length).map (λi=>ps.getD i rV):=by
  apply ext_getElem (by simp);intro i h1 h2;simp[bl,aI h1]
 rw[jL,Sn.used,← h.len]
 conv=>lhs;rw[e]
 rw[List.countP_map];refine countP_congr λi hi=>?_;have dF:i<ps.length:=mem_range.1 hi;have:=h.refs i _ (aI dF);simp only[Function.comp,bl,aI dF,Option.getD_some,this]
theorem Rel.live {A:Sn}{ps:List Pg}(h:Rel A ps){x:aC}(hx:x∈A.au){k:Nat}(hk:k<4):∃ h:x.p k<ps.length,0<ps[x.p k].refs∧∀ j,j<8→ps[x.p k].g j=x.g (8*k+j):=by
 obtain⟨q,h1,h2⟩:=h.oX x hx k hk;obtain⟨h3,h4⟩:=a2.1 h1;refine⟨h3,?_,λj hj=>by rw[h4];exact h2 j hj⟩;rw[h.refs _ _ (aI h3)];have:=tz hx (x.p k);have:=r4 (x:=x) hk;omega
def g7 (ps:List Pg)(x:aC)(m:Nat):List Pg:=ps.mapIdx λp q=>⟨q.g,q.refs+iK x p m⟩
def iY (ps:List Pg)(x:aC)(m:Nat):List Pg:=ps.mapIdx λp q=>⟨q.g,q.refs-iK x p m⟩
theorem Tq (ps:List Pg)(x:aC):g7 ps x 0=ps:=by
 apply ext_getElem (by simp[g7]);intro i h1 h2;simp[g7,zf]
theorem Ts (ps:List Pg)(x:aC):iY ps x 0=ps:=by
 apply ext_getElem (by simp[iY]);intro i h1 h2;simp[iY,zf]
theorem w7 (ps:List Pg)(x:aC)(m:Nat):(g7 ps x m).length=ps.length:=by simp[g7]
theorem zg (ps:List Pg)(x:aC)(m:Nat):(iY ps x m).length=ps.length:=by simp[iY]
theorem w8 {ps:List Pg}{x:aC}{m p:Nat}(h:p<(g7 ps x m).length):(g7 ps x m)[p]=⟨(ps[p]'(by rw[w7]at h;exact h)).g,(ps[p]'(by rw[w7]at h;exact h)).refs+iK x p m⟩:=by simp[g7]
theorem zh {ps:List Pg}{x:aC}{m p:Nat}(h:p<(iY ps x m).length):(iY ps x m)[p]=⟨(ps[p]'(by rw[zg]at h;exact h)).g,(ps[p]'(by rw[zg]at h;exact h)).refs-iK x p m⟩:=by simp[iY]
theorem Tt {ps:List Pg}{x:aC}{m:Nat}(h:x.p m<(g7 ps x m).length):(g7 ps x m).set (x.p m) ⟨(g7 ps x m)[x.p m].g,(g7 ps x m)[x.p m].refs+1⟩=g7 ps x (m+1):=by
 apply ext_getElem (by simp[g7]);intro i h1 h2;rw[List.getElem_set,w8 h2];by_cases hi:x.p m=i
 ·subst hi;rw[ak rfl,w8 h,kC,ak rfl,Nat.add_assoc]
 ·rw[ae hi,w8 (by simpa using h1),kC,ae hi];rfl
theorem Tu {ps:List Pg}{x:aC}{m:Nat}(h:x.p m<(iY ps x m).length):(iY ps x m).set (x.p m) ⟨(iY ps x m)[x.p m].g,(iY ps x m)[x.p m].refs-1⟩=iY ps x (m+1):=by
 apply ext_getElem (by simp[iY]);intro i h1 h2;rw[List.getElem_set,zh h2];by_cases hi:x.p m=i
 ·subst hi;rw[ak rfl,zh h,kC,ak rfl,Nat.sub_sub]
 ·rw[ae hi,zh (by simpa using h1),kC,ae hi];rfl
theorem H2 (ps:List Pg)(x:aC)(m p:Nat):(g7 ps x m)[p]?=ps[p]?.map λq=>⟨q.g,q.refs+iK x p m⟩:=by simp[g7]
theorem H3 (ps:List Pg)(x:aC)(m p:Nat):(iY ps x m)[p]?=ps[p]?.map λq=>⟨q.g,q.refs-iK x p m⟩:=by simp[iY]
def Sn.add (A:Sn)(g:Nat→Int)(p:Nat→Nat):Sn:={ A with last:=A.last+1,n:=A.n+1,au:=A.au++[⟨A.last+1,1,g,p⟩] }
def Sn.drop (A:Sn)(i:Nat)(x:aC):Sn:={ A with au:=if x.refs=1 then A.au.eraseIdx i else A.au.set i { x with refs:=x.refs-1 } }
def Sn.put (A:Sn)(i:Nat)(x:aC)(c:Nat)(v:Int):Sn:={ A with au:=A.au.set i { x with g:=cd x.g c v } }
def Sn.tA (A:Sn)(i:Nat)(x:aC)(c:Nat)(v:Int)(f:Nat):Sn:={ A with au:=A.au.set i { x with g:=cd x.g c v,p:=λj=>if j=c/8 then f else x.p j } }
theorem WF.add {A:Sn}(h:WF A)(hn:A.n+1<1099511627776)(g:Nat→Int)(p:Nat→Nat):WF (A.add g p):=by
 obtain⟨h1,h2,h3,h4,h5,h6⟩:=h;refine⟨h1,hn,by simp[Sn.add];omega,by simp[Sn.add];omega,?_,λx hx=>?_⟩
 ·simp only[Sn.add,cQ,map_cons,map_nil];refine List.pairwise_append.2 ⟨h5,by simp,λa E b hb=>?_⟩;obtain⟨x,hx,rfl⟩:=c1.1 E;have:=(h6 x hx).2.1;simp at hb;omega
 ·simp only[Sn.add]at hx ⊢;rcases eM.1 hx with hx | hx
  ·have:=h6 x hx;omega
  ·simp at hx;subst hx;simp
theorem H4 {l:List aC}{i:Nat}{x y:aC}(h:l[i]?=some x)(he:y.id=x.id):(l.set i y).map (·.id)=l.map (·.id):=by
 obtain⟨hi,rfl⟩:=a2.1 h;rw[List.map_set,he];apply ext_getElem?;intro j;rw[jF];by_cases hj:i=j
 ·subst hj;simp[hi]
 ·rw[ae hj]
theorem WF.set {A:Sn}(h:WF A){n:Nat}(hn:n<1099511627776)(hle:A.n≤n){i:Nat}{x y:aC}(hx:A.au[i]?=some x)(he:y.id=x.id)(hr:1≤y.refs∧y.refs≤n):WF { A with n:=n,au:=A.au.set i y }:=by
 obtain⟨h1,h2,h3,h4,h5,h6⟩:=h;have eC:=bK hx;refine⟨h1,hn,by simp only;omega,by simp only[br];omega,by simp only;rw[H4 hx he];exact h5,λz hz=>?_⟩;simp only at hz ⊢;rcases mem_or_eq_of_mem_set hz with hz | rfl
 ·have:=h6 z hz;omega
 ·have:=h6 x eC;rw[he];omega
theorem WF.erase {A:Sn}(h:WF A)(i:Nat):WF { A with au:=A.au.eraseIdx i }:=by
 obtain⟨h1,h2,h3,h4,h5,h6⟩:=h;refine⟨h1,h2,h3,?_,?_,λz hz=>h6 z (mem_of_mem_eraseIdx hz)⟩
 ·simp only;exact gN (List.length_eraseIdx_le _ _) h4
 ·simp only;rw[w4];exact h5.sublist (List.eraseIdx_sublist _ _)
theorem WF.ids {A:Sn}(h:WF A){i j:Nat}{x y:aC}(hx:A.au[i]?=some x)(hy:A.au[j]?=some y)(he:x.id=y.id):i=j:=by
 obtain⟨hi,rfl⟩:=a2.1 hx;obtain⟨hj,rfl⟩:=a2.1 hy;have hp:=List.pairwise_iff_getElem.1 h.sorted;rcases Nat.lt_trichotomy i j with hl | hl | hl
 ·have:=hp i j (by simpa using hi) (by simpa using hj) hl;simp at this;omega
 ·exact hl
 ·have:=hp j i (by simpa using hj) (by simpa using hi) hl;simp at this;omega
theorem Rel.add {A:Sn}{ps:List Pg}(h:Rel A ps){x:aC}(hx:x∈A.au):Rel (A.add x.g x.p) (g7 ps x 4):=by
 refine⟨by rw[w7];exact h.len,λp q hq=>?_,λy hy k hk=>?_⟩
 ·rw[H2]at hq;obtain⟨r7,h1,rfl⟩:=Option.map_eq_some_iff.1 hq;have:=h.refs p r7 h1;simp only[Sn.add,w5,r5,Cw,this];rfl
 ·have h0 : ∀ y : aC, (∃ q, ps[y.p k]? = some q ∧ ∀ j, j < 8 → q.g j = y.g (8 * k + j)) → ∃ q, (g7 ps x 4)[y.p k]? = some q ∧ ∀ j, j < 8 → q.g j = y.g (8 * k + j) := by
   rintro y ⟨q,h1,h2⟩;exact⟨⟨q.g,q.refs+iK x (y.p k) 4⟩,by rw[H2,h1];rfl,h2⟩
  simp only[Sn.add]at hy;rcases eM.1 hy with hy | hy
  ·exact h0 y (h.oX y hy k hk)
  ·simp at hy;subst hy;exact h0 ⟨A.last+1,1,x.g,x.p⟩ (h.oX x hx k hk)
theorem Rel.Tv {A:Sn}{ps:List Pg}(h:Rel A ps){n i:Nat}{x:aC}{r:Nat}(hx:A.au[i]?=some x):Rel { A with n:=n,au:=A.au.set i { x with refs:=r } } ps:=by
 obtain⟨hi,rfl⟩:=a2.1 hx;refine⟨h.len,λp q hq=>?_,λy hy k hk=>?_⟩
 ·have:=Cx hi { A.au[i] with refs:=r } p;have h2:g6 { A.au[i] with refs:=r } p=g6 A.au[i] p:=H0 (λ_ _=>rfl) p;rw[h.refs p q hq];show cJ A.au p=cJ (A.au.set i { A.au[i] with refs:=r }) p;omega
 ·simp only at hy;rcases mem_or_eq_of_mem_set hy with hy | rfl
  ·exact h.oX y hy k hk
  ·exact h.oX _ (getElem_mem hi) k hk
theorem Rel.erase {A:Sn}{ps:List Pg}(h:Rel A ps){i:Nat}{x:aC}(hx:A.au[i]?=some x):Rel { A with au:=A.au.eraseIdx i } (iY ps x 4):=by
 obtain⟨hi,rfl⟩:=a2.1 hx;refine⟨by rw[zg];exact h.len,λp q hq=>?_,λy hy k hk=>?_⟩
 ·rw[H3]at hq;obtain⟨r7,h1,rfl⟩:=Option.map_eq_some_iff.1 hq;have:=h.refs p r7 h1;have h2:=w6 hi p;simp only[this,h2];show _-g6 A.au[i] p=_;omega
 ·obtain⟨q,h1,h2⟩:=h.oX y (mem_of_mem_eraseIdx hy) k hk;exact⟨⟨q.g,q.refs-iK A.au[i] (y.p k) 4⟩,by rw[H3,h1];rfl,h2⟩
theorem alone {A:Sn}{i:Nat}{x:aC}(hx:A.au[i]?=some x){k:Nat}(hk:k<4)(h1:cJ A.au (x.p k)≤1){j:Nat}{y:aC}(hy:A.au[j]?=some y){k':Nat}(eS:k'<4)(he:y.p k'=x.p k):j=i∧k'=k:=by
 obtain⟨hi,rfl⟩:=a2.1 hx;have h2:=w6 hi (A.au[i].p k);have h3:=r4 (x:=A.au[i]) hk;have gG:j=i:=by
  rcases Nat.lt_trichotomy j i with hl | hl | hl
  ·have hm : y ∈ A.au.eraseIdx i := by
    rw[List.mem_eraseIdx_iff_getElem?];exact⟨j,by omega,hy⟩
   have h4:=tz hm (A.au[i].p k);rw[← he]at h4 h2 h3 h1;have:=r4 (x:=y) eS;omega
  ·exact hl
  ·have hm : y ∈ A.au.eraseIdx i := by
    rw[List.mem_eraseIdx_iff_getElem?];exact⟨j,by omega,hy⟩
   have h4:=tz hm (A.au[i].p k);rw[← he]at h4 h2 h3 h1;have:=r4 (x:=y) eS;omega
 refine⟨gG,?_⟩;subst gG;rw[aI hi]at hy;cases hy;by_cases jM:k'=k
 ·exact jM
 ·have:=Tp hk eS (Ne.symm jM) he.symm;omega
theorem Rel.put {A:Sn}{ps:List Pg}(h:Rel A ps){i:Nat}{x:aC}(hx:A.au[i]?=some x){c:Nat}(hc:c<32)(h1:cJ A.au (x.p (c/8))=1)(v:Int)(hl:x.p (c/8)<ps.length) :
   Rel (A.put i x c v) (ps.set (x.p (c/8)) ⟨λj=>if j=c%8 then v else ps[x.p (c/8)].g j,1⟩):=by
 have hi:=(a2.1 hx).1;have gS:=(a2.1 hx).2;have hk:c/8<4:=by omega
 have w9:∀ p,cJ (A.put i x c v).au p=cJ A.au p:=λp=>by
  have:=Cx hi { x with g:=cd x.g c v } p;have h2:g6 { x with g:=cd x.g c v } p=g6 A.au[i] p:=by rw[gS];exact H0 (λ_ _=>rfl) p
  simp only[Sn.put];omega
 refine⟨by rw[br];exact h.len,λp q hq=>?_,λy hy k eS=>?_⟩
 ·rw[w9];rw[jF]at hq;by_cases hp:x.p (c/8)=p
  ·subst hp;rw[ak rfl,ak hl]at hq;cases hq;exact h1.symm
  ·rw[ae hp]at hq;exact h.refs p q hq
 ·simp only[Sn.put]at hy;obtain⟨j,hj⟩:=jN.1 hy;rw[jF]at hj;by_cases nT:i=j
  ·rw[ak nT,ak hi]at hj;cases hj;obtain⟨q,h2,h3⟩:=h.oX x (bK hx) k eS;by_cases qx:k=c/8
   ·subst qx;refine⟨⟨λj=>if j=c%8 then v else ps[x.p (c/8)].g j,1⟩,by simp[hl],λm hm=>?_⟩;rw[aI hl]at h2;cases h2;simp only[cd];by_cases j5:m=c%8
    ·rw[ak j5,ak (by omega)]
    ·rw[ae j5,ae (by omega)];exact h3 m hm
   ·have bN:x.p (c/8)≠x.p k:=λe=>qx (alone hx hk (by omega) hx eS e.symm).2;refine⟨q,by simp only;rw[getElem?_set_ne bN];exact h2,λm hm=>?_⟩;simp only[cd];rw[ae (by omega)];exact h3 m hm
  ·rw[ae nT]at hj;obtain⟨q,h2,h3⟩:=h.oX y (bK hj) k eS;have bN:x.p (c/8)≠y.p k:=λe=>nT (alone hx hk (by omega) hj eS e.symm).1.symm;exact⟨q,by rw[getElem?_set_ne bN];exact h2,h3⟩
theorem Rel.tA {A:Sn}{ps:List Pg}(h:Rel A ps){i:Nat}{x:aC}(hx:A.au[i]?=some x){c f:Nat}(hc:c<32)(h1:1<cJ A.au (x.p (c/8)))(v:Int)(hl:x.p (c/8)<ps.length)(hf:f<ps.length)(h0:ps[f].refs=0) :
   Rel (A.tA i x c v f) ((ps.set (x.p (c/8)) ⟨ps[x.p (c/8)].g,ps[x.p (c/8)].refs-1⟩).set f ⟨λj=>if j=c%8 then v else ps[x.p (c/8)].g j,1⟩):=by
 have hi:=(a2.1 hx).1;have gS:=(a2.1 hx).2;have hk:c/8<4:=by omega
 have Cz:cJ A.au f=0:=by rw[← h.refs f _ (aI hf)];exact h0
 have CA:∀ y∈A.au,∀ k,k<4→y.p k≠f:=λy hy k eS e=>by
  have h2:=tz hy f;rw[← e]at h2 Cz;have:=r4 (x:=y) eS;omega
 have eC:=bK hx;have zi:x.p (c/8)≠f:=CA x eC _ hk;have H5:∀ p,g6 { x with g:=cd x.g c v,p:=λj=>if j=c/8 then f else x.p j } p+(if x.p (c/8)=p then 1 else 0)=g6 x p+(if f=p then 1 else 0):=λp=>by
  rw[tx,tx];simp only;rcases (by omega:c/8=0∨c/8=1∨c/8=2∨c/8=3) with e | e | e | e <;> rw[e] <;> simp <;> omega
 refine⟨by rw[br,br];exact h.len,λp q hq=>?_,λy hy k eS=>?_⟩
 ·have h2:=Cx hi { x with g:=cd x.g c v,p:=λj=>if j=c/8 then f else x.p j } p;have h3:=H5 p;rw[gS]at h2;simp only[Sn.tA];by_cases hp:f=p
  ·subst hp;rw[getElem?_set_self (by rw[br];exact hf)]at hq;cases hq;rw[ak rfl,ae zi]at h3;simp only;omega
  ·rw[getElem?_set_ne hp]at hq;rw[ae hp]at h3;by_cases hR:x.p (c/8)=p
   ·subst hR;rw[getElem?_set_self hl]at hq;cases hq;rw[ak rfl]at h3;have h4:=h.refs _ _ (aI hl);simp only;omega
   ·rw[getElem?_set_ne hR]at hq;rw[ae hR]at h3;have h4:=h.refs _ _ hq;omega
 ·simp only[Sn.tA]at hy;obtain⟨j,hj⟩:=jN.1 hy;rw[jF]at hj;have vj:∀ y:aC,(∃ q,ps[y.p k]?=some q∧∀ j,j<8→q.g j=y.g (8*k+j))→y.p k≠f→∃ q,((ps.set (x.p (c/8)) ⟨ps[x.p (c/8)].g,ps[x.p (c/8)].refs-1⟩).set f ⟨λj=>if j=c%8 then v else ps[x.p (c/8)].g j,1⟩)[y.p k]?=some q∧∀ j,j<8→q.g j=y.g (8*k+j):=by
   rintro y ⟨q,h2,h3⟩ hn;by_cases hp:x.p (c/8)=y.p k
   ·rw[← hp]at h2 ⊢;rw[aI hl]at h2;cases h2;refine⟨⟨ps[x.p (c/8)].g,ps[x.p (c/8)].refs-1⟩,?_,h3⟩;rw[getElem?_set_ne (Ne.symm zi),getElem?_set_self hl]
   ·exact⟨q,by rw[getElem?_set_ne (Ne.symm hn),getElem?_set_ne hp];exact h2,h3⟩
  by_cases nT:i=j
  ·rw[ak nT,ak hi]at hj;cases hj;obtain⟨q,h2,h3⟩:=h.oX x eC k eS;by_cases qx:k=c/8
   ·subst qx;refine⟨⟨λj=>if j=c%8 then v else ps[x.p (c/8)].g j,1⟩,by simp only[if_true];rw[getElem?_set_self (by rw[br];exact hf)],λm hm=>?_⟩;rw[aI hl]at h2;cases h2;simp only[cd];by_cases j5:m=c%8
    ·rw[ak j5,ak (by omega)]
    ·rw[ae j5,ae (by omega)];exact h3 m hm
   ·obtain⟨q',h4,h5⟩:=vj x ⟨q,h2,h3⟩ (CA x eC k eS);refine⟨q',by simp only[ae qx];exact h4,λm hm=>?_⟩;simp only[cd];rw[ae (by omega)];exact h5 m hm
  ·rw[ae nT]at hj;exact vj y (h.oX y (bK hj) k eS) (CA y (bK hj) k eS)
end
section
def iL (x:aC×Nat):SP:=aa x.2 232 x.1.cells
def kvs (xs:List (aC×Nat)):List (Int×Value):=xs.map λx=>((x.1.id:Int),Value.pointer (some ⟨x.2,0,none⟩))
def aw (q r:Nat)(A:Sn):SP:=λh=>∃ b m ps xs,(xs.map (·.1)=A.au∧WF A∧Rel A ps) ∧
 cm [aa q 221 [pt r,.map (some m),.int .i64 A.last],mp m (kvs xs),Room r b ps,ah iL xs] h
section
variable {W w:World}{L L' R:List SP}{q r b m i pb:Nat}{A:Sn}{ps:List Pg}{xs:List (aC×Nat)}{x y:aC}
theorem aw.open (I:U W w (aw q r A::L)):∃ b m ps xs,xs.map (·.1)=A.au∧WF A∧Rel A ps ∧
   U W w (aa q 221 [pt r,.map (some m),.int .i64 A.last]::mp m (kvs xs)::Room r b ps::ah iL xs::L):=by
 obtain⟨⟨b,m,ps,xs⟩,⟨h1,h2,h3⟩,h4⟩:=I.jo (ι:=Nat×Nat×List Pg×List (aC×Nat)) (p:=λi=>i.2.2.2.map (·.1)=A.au∧WF A∧Rel A i.2.2.1)
  (B:=λi h=>cm [aa q 221 [pt r,.map (some i.2.1),.int .i64 A.last],mp i.2.1 (kvs i.2.2.2),Room r i.1 i.2.2.1,ah iL i.2.2.2] h)
  (λh ⟨b,m,ps,xs,h1,h2⟩=>⟨(b,m,ps,xs),h1,h2⟩)
 exact⟨b,m,ps,xs,h1,h2,h3,h4.open λ_ h=>h⟩
theorem aw.close {last:Nat}(I:U W w L)[k:fD L (aa q 221 [pt r,.map (some m),.int .i64 last]::mp m (kvs xs)::Room r b ps::ah iL xs::L') R]
   (h1:xs.map (·.1)=A.au) (h2:WF A) (h3:Rel A ps) (hl:A.last=last:=by rfl):U W w (aw q r A::L'):=by
 subst hl;exact U.shut (M:=[_,_,_,_]) (I.sub (M:=aa q 221 [pt r,.map (some m),.int .i64 A.last]::mp m (kvs xs)::Room r b ps::ah iL xs::L')) (λ_ x=>⟨b,m,ps,xs,⟨h1,h2,h3⟩,x⟩)
theorem p0 (h1:xs.map (·.1)=A.au)(hx:A.au[i]?=some x):∃ pb,xs[i]?=some (x,pb):=by
 rw[← h1,bm]at hx;obtain⟨⟨y,pb⟩,h2,rfl⟩:=Option.map_eq_some_iff.1 hx;exact⟨pb,h2⟩
theorem U.qJ (I:U W w L)(hx:xs[i]?=some (x,pb))[k:pQ L (ah iL xs) R]:U W w (aa pb 232 x.cells::ah iL (xs.eraseIdx i)::R):=by
 obtain⟨hi,he⟩:=a2.1 hx;have:=(I.perm k.perm).fE hi;rw[he]at this;exact this
theorem Tw (hx:xs[i]?=some (x,pb))(he:y.id=x.id):kvs (xs.set i (y,pb))=kvs xs:=by
 have hi:=(a2.1 hx).1;apply ext_getElem?;intro j;simp only[kvs,bm,jF];by_cases hj:i=j
 ·subst hj;rw[ak rfl,ak hi,hx];simp[he]
 ·rw[ae hj]
theorem aw.tB {B:Sn}{last:Nat}(I:U W w L)[k:fD L (aa q 221 [pt r,.map (some m),.int .i64 last]::mp m (kvs xs)::Room r b ps::aa pb 232 y.cells::ah iL (xs.eraseIdx i)::L') R]
   (hx:xs[i]?=some (x,pb)) (h1:xs.map (·.1)=A.au) (he:y.id=x.id) (hB:B.au=A.au.set i y) (h2:WF B) (h3:Rel B ps) (hl:B.last=last:=by rfl):U W w (aw q r B::L'):=by
 subst hl;obtain⟨hi,_⟩:=a2.1 hx;have h0:=I.sub (M:=aa q 221 [pt r,.map (some m),.int .i64 B.last]::mp m (kvs xs)::Room r b ps::aa pb 232 y.cells::ah iL (xs.eraseIdx i)::L');have h4:=h0.sub (M:=aa pb 232 y.cells::ah iL (xs.eraseIdx i)::aa q 221 [pt r,.map (some m),.int .i64 B.last]::mp m (kvs xs)::Room r b ps::L');have h5:=U.ky (f:=iL) (x:=(y,pb)) hi h4;rw[← Tw (y:=y) hx he]at h5;exact aw.close (b:=b) (m:=m) (xs:=xs.set i (y,pb)) h5 (by rw[List.map_set,h1,hB]) h2 h3
theorem xc (hx:A.au[i]?=some x):A.au=A.au.set i x:=by
 obtain⟨hi,rfl⟩:=a2.1 hx;rw[set_getElem_self]
theorem findAt (h1:xs.map (·.1)=A.au)(hw:WF A)(hx:xs[i]?=some (x,pb)):mM (kvs xs) (x.id:Int) 0=some (i,pt pb):=by
 have hA:∀ (j:Nat) (z:aC×Nat),xs[j]?=some z→A.au[j]?=some z.1:=λj z hz=>by rw[← h1,bm,hz];rfl
 have:=S8 (kvs:=kvs xs) (k:=(x.id:Int)) (v:=pt pb) (j:=i) 0 (by rw[kvs,bm,hx];rfl) (λj hj p hp=>by
  rw[kvs,bm]at hp;obtain⟨z,hz,rfl⟩:=Option.map_eq_some_iff.1 hp;intro e;simp at e;have:=hw.ids (hA j z hz) (hA i _ hx) (Int.ofNat.inj e);omega)
 rwa [Nat.zero_add]at this
theorem p1 {last:Nat}(I:U W w (aa q 221 [pt r,.map (some m),.int .i64 last]::mp m (kvs xs)::L))(h1:xs.map (·.1)=A.au)(hw:WF A)(hx:xs[i]?=some (x,pb)) :
   Calls prog 120 #[pt q,.int .i64 x.id] w λe V=>e=.returned (pt pb) ∧
    U W V (aa q 221 [pt r,.map (some m),.int .i64 last]::mp m (kvs xs)::L):=by
 have hf:=findAt h1 hw hx;refine EN func120 ntmps120 rfl rfl λa E=>?_;refine RN 6 E I λa E=>?_;replace E:=E.aN 6;refine RN 7 E I λa E=>?_;refine SS E (HS E underlying218 underlying166 Ty.t219 I (v:=pt pb) (by rw[hf];rfl)) λa E=>?_;refine RT 1 E I ?_;exact⟨rfl,I⟩
theorem H6 {last:Nat}{X:Int}(I:U W w (aa q 221 [pt r,.map (some m),.int .i64 last]::mp m (kvs xs)::L))(h1:xs.map (·.1)=A.au)(hn:∀ y∈A.au,(y.id:Int)≠X) :
   Calls prog 120 #[pt q,.int .i64 X] w λe V=>e=.returned (.pointer none) ∧
    U W V (aa q 221 [pt r,.map (some m),.int .i64 last]::mp m (kvs xs)::L):=by
 have hf:mM (kvs xs) X 0=none:=HO (λp hp=>by
  obtain⟨z,hz,rfl⟩:=c1.1 hp;exact hn z.1 (by rw[← h1];exact c1.2 ⟨z,hz,rfl⟩)) 0
 refine EN func120 ntmps120 rfl rfl λa E=>?_;refine RN 6 E I λa E=>?_;replace E:=E.aN 6;refine RN 7 E I λa E=>?_;refine SS E (HS E underlying218 underlying166 Ty.t219 I (v:=.pointer none) (by rw[hf];rfl)) λa E=>?_;refine RT 1 E I ?_;exact⟨rfl,I⟩
theorem Tx (I:U W w (aw q r A::L))(hx:A.au[i]?=some x) :
   Calls prog 214 #[pt q,.int .i64 x.id] w λe V=>e=.returned (.int .i64 x.refs)∧U W V (aw q r A::L):=by
 obtain⟨b,m,ps,xs,h1,hw,hr,I⟩:=aw.open I;obtain⟨pb,a8⟩:=p0 h1 hx;refine EN func214 ntmps214 rfl rfl λa E=>?_;refine CL 5 E I (p1 I h1 hw a8) λa w E I=>?_;refine RN 5 E I λa E=>?_;replace E:=E.aN 10;refine RN 2 E I λa E=>?_;replace I:=I.qJ a8;refine RN 3 E I λa E=>?_;refine SS E (ag E (I.bB aC.ref)) λa E=>?_;refine RT 1 E I ?_;exact⟨rfl,aw.tB (b:=b) (m:=m) (ps:=ps) (pb:=pb) (y:=x) I a8 h1 rfl (xc hx) hw hr⟩
theorem Tz {X:Int}(I:U W w (aw q r A::L))(hn:∀ y∈A.au,(y.id:Int)≠X) :
   Calls prog 214 #[pt q,.int .i64 X] w λe V=>e=.returned (.int .i64 0)∧U W V (aw q r A::L):=by
 obtain⟨b,m,ps,xs,h1,hw,hr,I⟩:=aw.open I;refine EN func214 ntmps214 rfl rfl λa E=>?_;refine CL 5 E I (H6 I h1 hn) λa w E I=>?_;refine RN 5 E I λa E=>?_;replace E:=E.ef 10;refine RT 3 E I ?_;exact⟨rfl,aw.close (b:=b) (m:=m) I h1 hw hr⟩
theorem zj {c:Nat}(h:c<4096):IntKind.i64.wrap ((c:Int).tdiv 8)=(c:Int).tdiv 8:=by
 rw[show (c:Int).tdiv 8=((c/8:Nat):Int) from qy c 8];exact gr (by omega) (by omega)
theorem H7 {c:Nat}(I:U W w (aw q r A::L))(hx:A.au[i]?=some x)(hc:c<32) :
   Calls prog 308 #[pt q,.int .i64 x.id,.int .i64 c] w λe V=>e=.returned (.tuple #[.int .i32 (x.g c),.bool true])∧U W V (aw q r A::L):=by
 obtain⟨b,m,ps,xs,h1,hw,hr,I⟩:=aw.open I;obtain⟨pb,a8⟩:=p0 h1 hx;obtain⟨gv,hR,r8⟩:=hr.live (bK hx) (k:=c/8) (by omega);refine EN func308 ntmps308 rfl rfl λa E=>?_;refine CL 6 E I (p1 I h1 hw a8) λa w E I=>?_;refine RN 6 E I λa E=>?_;replace E:=E.aN 14;refine RN 4 E I λa E=>?_;rw[bn (by omega)]at E;refine RN 3 E I λa E=>?_;rw[bn (by omega)]at E;refine RN 2 E I λa E=>?_;replace I:=I.qJ a8;refine bQ 0 [10] [0,1,2,4,5,6,7,8,9,11,12,3003,1010,1013,14,15,16,17] E I λa w E I hH hC=>?_;refine RH 5 E I hH hC λa E=>?_;refine QP E (λw=>vc E (by decide) (zj (by omega))) λa E=>?_;rw[show (c:Int).tdiv 8=((c/8:Nat):Int) from qy c 8]at E;refine RH 4 E I hH hC λa E=>?_;refine QP E (λw=>y0 E (by decide)) λa E=>?_;rw[show (c:Int).tmod 8=((c%8:Nat):Int) from nP c 8]at E;refine RH 1 E I hH hC λa E=>?_;refine SS E (ag E (I.bB (aC.at (by omega)))) λa E=>?_;refine RH 0 E I hH hC λa E=>?_;refine CL 0 E I (SY (I.pick (Room r b ps)) gv hR (Nat.mod_lt c (by decide))) λa w E I=>?_;refine RN 4 E I λa E=>?_;refine RT 0 E I ?_;exact⟨by rw[r8 _ (Nat.mod_lt c (by decide)),show 8*(c/8)+c%8=c from by omega],aw.tB (b:=b) (m:=m) (ps:=ps) (pb:=pb) (y:=x) I a8 h1 rfl (xc hx) hw hr⟩
theorem H8 {A:Sn}(h1:xs.map (·.1)=A.au)(hw:WF A):∀ p∈kvs xs,p.1≠((A.last+1:Nat):Int):=by
 intro p hp;obtain⟨z,hz,rfl⟩:=c1.1 hp;have:=(hw.lZ z.1 (by rw[← h1];exact c1.2 ⟨z,hz,rfl⟩)).2.1;simp only;omega
theorem TA {i:Int}(h1:-9223372036854775808≤i)(h2:i≤9223372036854775807):(Lit.int .i64 i).wf=true:=(Lit.wf_int_iff .i64 i).2 ⟨h1,h2⟩
theorem H9 {last:Nat}(I:U W w (aa q 221 [pt r,.map (some m),.int .i64 last]::mp m (kvs xs)::L))(hl:last<1099511627776)(hn:∀ p∈kvs xs,p.1≠((last+1:Nat):Int)) :
   Calls prog 129 #[pt q,.agg (aC.cells x).toArray] w λe V=>∃ pb,e=.returned (.int .i64 ((last+1:Nat):Int)) ∧
    U W V (aa q 221 [pt r,.map (some m),.int .i64 ((last+1:Nat):Int)]::mp m (kvs xs++[(((last+1:Nat):Int),pt pb)])::aa pb 232 (aC.cells { x with refs:=1 })::L):=by
 refine EN func129 ntmps129 rfl rfl λa E=>?_;refine BX 1 E I λb3 a w E I=>?_;refine RN 7 E I λa E=>?_;rw[show ((last:Int)+1)=((last+1:Nat):Int) from rfl]at E;refine ST 2 E I (λa w E I=>?_);refine ST 2 E I (λa w E I=>?_) (hlt:=(by rw[aC.len];decide));rw[show (Value.int IntKind.i64 1)=.int .i64 ((1:Nat):Int) from rfl,aC.Cu]at I;refine bQ 1 [7] [0,1,2,4,5,6,3003,1007,1008] E I λa w E I hH hC=>?_;refine RH 8 E I hH hC λa E=>?_;refine Tb E rfl I underlying218 underlying166 (TA (by omega) (by omega)) hn λa w E I=>?_;refine RT 6 E I ?_;exact⟨b3,rfl,I.sub⟩
theorem U.CB {e:Nat}(I:U W w L)(pb:Nat)[k:fC L pb e x.cells R]:Rd w pb 0 (ints .i64 4 (λk=>(x.p k:Int)+1)):=by
 have:=I.pO (b:=pb) (off:=0) (cs:=x.cells) 4 (sc:=lQ.any)
 rwa [drop_zero,aC.cells,List.take_left' (df _ _ _)]at this
theorem Ia (I:U W w (aw q r A::L))(hx:A.au[i]?=some x)(hb:A.n+1<1099511627776) :
   Calls prog 181 #[pt q,.int .i64 x.id] w λe V=>e=.returned (.tuple #[.int .i64 ((A.last+1:Nat):Int),.bool true])∧U W V (aw q r (A.add x.g x.p)::L):=by
 obtain⟨b,m,ps,xs,h1,hw,hr,I⟩:=aw.open I;obtain⟨pb,a8⟩:=p0 h1 hx;have eC:=bK hx;have tC:=hw.last;have zk:=hr.add eC;have zl:=hw.add hb x.g x.p;have dm:=zk.ok zl;refine EN func181 ntmps181 rfl rfl λa E=>?_;refine CL 6 E I (p1 I h1 hw a8) λa w E I=>?_;refine RN 5 E I λa E=>?_;replace E:=E.aN 13;refine RN 3 E I λa E=>?_;replace I:=I.qJ a8;refine RN 3 E I λa E=>?_;refine SS E (bT E underlying230 rfl Ty.t230 (I.CB pb)) λa E=>?_;refine RN 1 E I λa E=>?_;refine aR (λμ a w=>∃ k:Nat,(μ=4-k∧k≤4)∧Fr a 33 [(0,pt q),(6,pt pb),(17,.agg (ints .i64 4 (λk=>(x.p k:Int)+1)).toArray),(18,.int .i64 k)]∧U W w (Room r b (g7 ps x k)::aa pb 232 x.cells::ah iL (xs.eraseIdx i)::aa q 221 [pt r,.map (some m),.int .i64 A.last]::mp m (kvs xs)::L)) (4) (⟨0,⟨by simp,by simp⟩,E.ab [0,6,17,18],by rw[Tq];exact I.sub⟩) ?_;clear E I;rintro μ a w ⟨k,⟨rfl,hk⟩,E,I⟩;have TB:=w7 ps x k;refine IF 3 E I (λao a E=>?_) λao a E=>?_
 ·
  refine RN 2 E I λa E=>?_;refine SS E (rM E underlying230 underlying3 rfl Ty.t3 (by omega) (fO _ (by omega))) λa E=>?_;refine RN 1 E I λa E=>?_;obtain⟨gv,hR,r8⟩:=hr.live eC (k:=k) (by omega);have vk:x.p k<(g7 ps x k).length:=by omega
  have CC:=Tt vk;have TC:(g7 ps x k)[x.p k].refs+1<4611686018427387904:=by
   have h3:=r0 x (x.p k) (m:=k+1) (n:=4) (by omega);have h4:=dm.2 _ (getElem_mem (show x.p k<(g7 ps x 4).length by rw[w7];exact gv));rw[w8]at h4 ⊢;rw[kC,ak rfl]at h3;simp only at h4 ⊢;omega
  have CD:0<(g7 ps x k)[x.p k].refs:=by rw[w8];simp only;omega
  refine CL 5 E I (SW (I.pick (Room r b (g7 ps x k))) vk CD TC) λa w E I=>?_;rw[CC]at I;refine RN 2 E I λa E=>?_;exact⟨4-(k+1),by omega,k+1,⟨rfl,by omega⟩,E.ab [0,6,17,18],I.sub⟩
 obtain rfl:k=4:=by omega
 refine bg 5 E I (H9 (q:=q) (r:=r) (m:=m) (last:=A.last) (L:=Room r b (g7 ps x 4)::aa pb 232 x.cells::ah iL (xs.eraseIdx i)::L) I.sub (by have:=hw.bound;omega) (H8 h1 hw)) λvl a w E I=>?_;refine RT 2 E I ?_;refine⟨rfl,?_⟩;have hi:=(a2.1 a8).1;have h5:=U.ky (f:=iL) (x:=(x,pb)) hi (I.sub (M:=aa pb 232 x.cells::ah iL (xs.eraseIdx i)::aa vl 232 (aC.cells { x with refs:=1 })::aa q 221 [pt r,.map (some m),.int .i64 ((A.last+1:Nat):Int)]::mp m (kvs xs++[(((A.last+1:Nat):Int),pt vl)])::Room r b (g7 ps x 4)::L));rw[show xs.set i (x,pb)=xs from by
  have:=a2.1 a8;rw[← this.2,set_getElem_self]]at h5
 have h6:=U.jG (f:=iL) (x:=(⟨A.last+1,1,x.g,x.p⟩,vl)) (h5.perm (List.Perm.swap _ _ _));rw[show kvs xs++[(((A.last+1:Nat):Int),Value.pointer (some ⟨vl,0,none⟩))]=kvs (xs++[(⟨A.last+1,1,x.g,x.p⟩,vl)]) from by simp[kvs]]at h6;exact aw.close (last:=A.last+1) (b:=b) (m:=m) (xs:=xs++[(⟨A.last+1,1,x.g,x.p⟩,vl)]) h6 (by simp[Sn.add,h1]) zl zk
theorem TD (I:U W w (aw q r A::L))(hx:A.au[i]?=some x)(h2:x.refs≠1) :
   Calls prog 185 #[pt q,.int .i64 x.id] w λe V=>e=.returned (.bool true)∧U W V (aw q r (A.drop i x)::L):=by
 obtain⟨b,m,ps,xs,h1,hw,hr,I⟩:=aw.open I;obtain⟨pb,a8⟩:=p0 h1 hx;have xd:=hw.lZ x (bK hx);have hA:A.drop i x={ A with n:=A.n,au:=A.au.set i { x with refs:=x.refs-1 } }:=by rw[Sn.drop,ae h2]
 have nh:=hw.bound;refine EN func185 ntmps185 rfl rfl λa E=>?_;refine CL 5 E I (p1 I h1 hw a8) λa w E I=>?_;refine RN 5 E I λa E=>?_;replace E:=E.aN 12;refine RN 3 E I λa E=>?_;replace I:=I.qJ a8;refine RN 3 E I λa E=>?_;refine SS E (ag E (I.bB aC.ref)) λa E=>?_;refine ST 3 E I (λa w E I=>?_) (hlt:=(by rw[aC.len];decide));rw[show ((x.refs:Int)-1)=((x.refs-1:Nat):Int) from by omega,aC.Cu]at I;refine RN 4 E I λa E=>?_;refine SS E (ag E (I.bB aC.ref)) λa E=>?_;refine RN 1 E I λa E=>?_;rw[dk (by simp;omega)]at E;refine RT 3 E I ?_;exact⟨rfl,aw.tB (last:=A.last) (b:=b) (m:=m) (ps:=ps) (pb:=pb) (y:={ x with refs:=x.refs-1 }) (B:=A.drop i x) I a8 h1 rfl (by rw[hA]) (by rw[hA];exact hw.set nh (bf _) hx rfl (by simp only;omega)) (by rw[hA];exact hr.Tv hx)⟩
theorem TF (I:U W w (aw q r A::L))(hx:A.au[i]?=some x)(h2:x.refs=1) :
   Calls prog 185 #[pt q,.int .i64 x.id] w λe V=>e=.returned (.bool true)∧U W V (aw q r (A.drop i x)::L):=by
 obtain⟨b,m,ps,xs,h1,hw,hr,I⟩:=aw.open I;obtain⟨pb,a8⟩:=p0 h1 hx;have eC:=bK hx;have hA:A.drop i x={ A with au:=A.au.eraseIdx i }:=by rw[Sn.drop,ak h2]
 refine EN func185 ntmps185 rfl rfl λa E=>?_;refine CL 5 E I (p1 I h1 hw a8) λa w E I=>?_;refine RN 5 E I λa E=>?_;replace E:=E.aN 12;refine RN 3 E I λa E=>?_;replace I:=I.qJ a8;refine RN 3 E I λa E=>?_;refine SS E (ag E (I.bB aC.ref)) λa E=>?_;refine ST 3 E I (λa w E I=>?_) (hlt:=(by rw[aC.len];decide));rw[show ((x.refs:Int)-1)=((x.refs-1:Nat):Int) from by omega,aC.Cu]at I;refine RN 4 E I λa E=>?_;refine SS E (ag E (I.bB aC.ref)) λa E=>?_;refine RN 1 E I λa E=>?_;rw[bn (by simp;omega)]at E;refine RN 6 E I λa E=>?_;refine SS E (bT E underlying230 rfl Ty.t230 (I.CB (x:={ x with refs:=x.refs-1 }) pb)) λa E=>?_;refine RN 1 E I λa E=>?_;refine aR (λμ a w=>∃ k:Nat,(μ=4-k∧k≤4)∧Fr a 44 [(0,pt q),(1,.int .i64 x.id),(28,.agg (ints .i64 4 (λk=>(x.p k:Int)+1)).toArray),(29,.int .i64 k)]∧U W w (Room r b (iY ps x k)::ah iL (xs.eraseIdx i)::aa q 221 [pt r,.map (some m),.int .i64 A.last]::mp m (kvs xs)::L)) (4) (⟨0,⟨by simp,by simp⟩,E.ab [0,1,28,29],by rw[Ts];exact I.sub⟩) ?_;clear E I;rintro μ a w ⟨k,⟨rfl,hk⟩,E,I⟩;have TB:=zg ps x k;refine IF 3 E I (λay a E=>?_) λay a E=>?_
 ·
  refine RN 2 E I λa E=>?_;refine SS E (rM E underlying230 underlying3 rfl Ty.t3 (by omega) (fO _ (by omega))) λa E=>?_;refine RN 1 E I λa E=>?_;obtain⟨gv,hR,r8⟩:=hr.live eC (k:=k) (by omega);have vk:x.p k<(iY ps x k).length:=by omega
  have CC:=Tu vk;have CD:0<(iY ps x k)[x.p k].refs:=by
   have h3:=r0 x (x.p k) (m:=k+1) (n:=4) (by omega);have h4:=hr.refs _ _ (aI gv);have h5:iK x (x.p k) 4≤cJ A.au (x.p k):=tz eC (x.p k);rw[kC,ak rfl]at h3;rw[zh];simp only;omega
  refine CL 5 E I (HL (I.pick (Room r b (iY ps x k))) vk CD) λa w E I=>?_;rw[CC]at I;refine RN 2 E I λa E=>?_;exact⟨4-(k+1),by omega,k+1,⟨rfl,by omega⟩,E.ab [0,1,28,29],I.sub⟩
 obtain rfl:k=4:=by omega
 refine RN 6 E I λa E=>?_;refine Tc E rfl I underlying218 underlying166 (findAt h1 hw a8) λa w E I=>?_;refine RT 2 E I ?_;have hk:(kvs xs).eraseIdx i=kvs (xs.eraseIdx i):=(w4 _ _ _).symm;rw[hk]at I;exact⟨rfl,aw.close (last:=A.last) (b:=b) (m:=m) (ps:=iY ps x 4) (xs:=xs.eraseIdx i) I (by rw[hA,w4,h1]) (by rw[hA];exact hw.erase i) (by rw[hA];exact hr.erase hx) (by rw[hA])⟩
theorem TG (I:U W w (aw q r A::L))(hx:A.au[i]?=some x) :
   Calls prog 185 #[pt q,.int .i64 x.id] w λe V=>e=.returned (.bool true)∧U W V (aw q r (A.drop i x)::L):=by
 by_cases h:x.refs=1
 ·exact TF I hx h
 ·exact TD I hx h
theorem TH {X:Int}(I:U W w (aw q r A::L))(hn:∀ y∈A.au,(y.id:Int)≠X) :
   Calls prog 185 #[pt q,.int .i64 X] w λe V=>e=.returned (.bool false)∧U W V (aw q r A::L):=by
 obtain⟨b,m,ps,xs,h1,hw,hr,I⟩:=aw.open I;refine EN func185 ntmps185 rfl rfl λa E=>?_;refine CL 5 E I (H6 I h1 hn) λa w E I=>?_;refine RN 5 E I λa E=>?_;replace E:=E.ef 12;refine RT 3 E I ?_;exact⟨rfl,aw.close (b:=b) (m:=m) I h1 hw hr⟩
theorem WF.put (hw:WF A)(hx:A.au[i]?=some x){g:Nat→Int}{p:Nat→Nat}:WF { A with au:=A.au.set i { x with g:=g,p:=p } } :=
 hw.set (n:=A.n) (y:={ x with g:=g,p:=p }) hw.bound (bf _) hx rfl (by have:=hw.lZ x (bK hx);simp only;omega)
theorem TJ {c:Nat}{v:Int}(I:U W w (aw q r A::L))(hx:A.au[i]?=some x)(hc:c<32)(h1:cJ A.au (x.p (c/8))=1) :
   Calls prog 346 #[pt q,.int .i64 x.id,.int .i64 c,.int .i32 v] w λe V=>e=.returned (.bool true)∧U W V (aw q r (A.put i x c v)::L):=by
 obtain⟨b,m,ps,xs,h2,hw,hr,I⟩:=aw.open I;obtain⟨pb,a8⟩:=p0 h2 hx;obtain⟨gv,hR,r8⟩:=hr.live (bK hx) (k:=c/8) (by omega);have vm:ps[x.p (c/8)].refs=1:=by rw[hr.refs _ _ (aI gv)];exact h1
 refine EN func346 ntmps346 rfl rfl λa E=>?_;refine CL 5 E I (p1 I h2 hw a8) λa w E I=>?_;refine RN 6 E I λa E=>?_;replace E:=E.aN 18;refine RN 4 E I λa E=>?_;rw[bn (by omega)]at E;refine RN 3 E I λa E=>?_;rw[bn (by omega)]at E;refine RN 2 E I λa E=>?_;replace I:=I.qJ a8;refine RN 2 E I λa E=>?_;refine SS E (vc E (by decide) (zj (by omega))) λa E=>?_;rw[show (c:Int).tdiv 8=((c/8:Nat):Int) from qy c 8]at E;refine bQ 6 [6] [0,1,2,4,5,3003,1006,1007,8] E I λa w E I hH hC=>?_;refine RH 6 E I hH hC λa E=>?_;refine SS E (ag E (I.bB (aC.at (by omega)))) λa E=>?_;refine RH 0 E I hH hC λa E=>?_;refine CL 0 E I (y7 (I.pick (Room r b ps)) gv hR) λa w E I=>?_;rw[vm]at E;refine RN 1 E I λa E=>?_;rw[bn (by omega)]at E;refine bQ 2 [6] [0,1,2,4,5,7,8,9,3003,1006,1010,11] E I λa w E I hH hC=>?_;refine RH 6 E I hH hC λa E=>?_;refine QP E (λw=>y0 E (by decide)) λa E=>?_;rw[show (c:Int).tmod 8=((c%8:Nat):Int) from nP c 8]at E;refine RH 2 E I hH hC λa E=>?_;refine SS E (ag E (I.bB (aC.at (by omega)))) λa E=>?_;refine RH 0 E I hH hC λa E=>?_;refine CL 0 E I (Cn (I.pick (Room r b ps)) gv vm (Nat.mod_lt c (by decide))) λa w E I=>?_;refine RN 1 E I λa E=>?_;refine RT 0 E I ?_;rw[show x.cells=aC.cells { x with g:=cd x.g c v } from rfl]at I;exact⟨rfl,aw.tB (B:=A.put i x c v) (last:=A.last) (b:=b) (m:=m) (pb:=pb) (y:={ x with g:=cd x.g c v }) (ps:=ps.set (x.p (c/8)) ⟨λj=>if j=c%8 then v else ps[x.p (c/8)].g j,1⟩) I a8 h2 rfl rfl (hw.put hx) (hr.put hx hc h1 v gv)⟩
theorem Ib {ps:List Pg}(h:y8 ps):jL ps=ps.length:=by
 rw[jL,List.countP_eq_length];intro p hp;obtain⟨i,hi,rfl⟩:=List.mem_iff_getElem.1 hp;have:=h i hi;simp;omega
theorem TK {ps:List Pg}{f:Nat}(h:tv ps f):jL ps<ps.length:=by
 obtain⟨hf,h0,_⟩:=h;have h1:=vh ps;rcases Nat.lt_or_ge (jL ps) ps.length with h2 | h2
 ·exact h2
 ·have:=(List.countP_eq_length (p:=λp:Pg=>decide (0<p.refs)) (l:=ps)).1 (Nat.le_antisymm h1 h2) _ (getElem_mem hf);simp at this;omega
theorem TL {c:Nat}{v:Int}(I:U W w (aw q r A::L))(hx:A.au[i]?=some x)(hc:c<32)(h1:1<cJ A.au (x.p (c/8)))(hu:A.used<A.room) :
   Calls prog 346 #[pt q,.int .i64 x.id,.int .i64 c,.int .i32 v] w λe V=>∃ f,e=.returned (.bool true)∧(f<A.room∧cJ A.au f=0)∧U W V (aw q r (A.tA i x c v f)::L):=by
 obtain⟨b,m,ps,xs,h2,hw,hr,I⟩:=aw.open I;obtain⟨pb,a8⟩:=p0 h2 hx;obtain⟨gv,hR,r8⟩:=hr.live (bK hx) (k:=c/8) (by omega);have vm:ps[x.p (c/8)].refs=cJ A.au (x.p (c/8)):=hr.refs _ _ (aI gv);rcases Co ps with bU | ⟨f,hf⟩
 ·have:=Ib bU;rw[hr.used,hr.len]at this;omega
 have iV:=hf.1;have jr:=hf.2.1;have Cz:cJ A.au f=0:=by rw[← hr.refs f _ (aI iV)];exact jr
 have bN:x.p (c/8)≠f:=by
  intro e;rw[e]at h1;omega
 have kD:x.p (c/8)<(ps.set f ⟨ps[x.p (c/8)].g,1⟩).length:=by rw[br];exact gv
 have e1:(ps.set f ⟨ps[x.p (c/8)].g,1⟩)[x.p (c/8)]=ps[x.p (c/8)]:=List.getElem_set_ne (Ne.symm bN) _;have l3:f<((ps.set f ⟨ps[x.p (c/8)].g,1⟩).set (x.p (c/8)) ⟨ps[x.p (c/8)].g,ps[x.p (c/8)].refs-1⟩).length:=by rw[br,br];exact iV
 have e2:((ps.set f ⟨ps[x.p (c/8)].g,1⟩).set (x.p (c/8)) ⟨ps[x.p (c/8)].g,ps[x.p (c/8)].refs-1⟩)[f]=⟨ps[x.p (c/8)].g,1⟩:=by rw[List.getElem_set_ne bN,getElem_set_self]
 have ft:((ps.set f ⟨ps[x.p (c/8)].g,1⟩).set (x.p (c/8)) ⟨ps[x.p (c/8)].g,ps[x.p (c/8)].refs-1⟩).set f ⟨λj=>if j=c%8 then v else ps[x.p (c/8)].g j,1⟩=(ps.set (x.p (c/8)) ⟨ps[x.p (c/8)].g,ps[x.p (c/8)].refs-1⟩).set f ⟨λj=>if j=c%8 then v else ps[x.p (c/8)].g j,1⟩:=by
  rw[List.set_comm _ _ (Ne.symm bN),set_set]
 refine EN func346 ntmps346 rfl rfl λa E=>?_;refine CL 5 E I (p1 I h2 hw a8) λa w E I=>?_;refine RN 6 E I λa E=>?_;replace E:=E.aN 18;refine RN 4 E I λa E=>?_;rw[bn (by omega)]at E;refine RN 3 E I λa E=>?_;rw[bn (by omega)]at E;refine RN 2 E I λa E=>?_;replace I:=I.qJ a8;refine RN 2 E I λa E=>?_;refine SS E (vc E (by decide) (zj (by omega))) λa E=>?_;rw[show (c:Int).tdiv 8=((c/8:Nat):Int) from qy c 8]at E;refine bQ 6 [6] [0,1,2,4,5,3003,1006,1007,8] E I λa w E I hH hC=>?_;refine RH 6 E I hH hC λa E=>?_;refine SS E (ag E (I.bB (aC.at (by omega)))) λa E=>?_;refine RH 0 E I hH hC λa E=>?_;refine CL 0 E I (y7 (I.pick (Room r b ps)) gv hR) λa w E I=>?_;refine RN 1 E I λa E=>?_;rw[dk (by omega)]at E;refine bQ 2 [6] [0,1,2,4,5,3003,1006,1007,8,9,10,11,12] E I λa w E I hH hC=>?_;refine RH 6 E I hH hC λa E=>?_;refine SS E (ag E (I.bB (aC.at (by omega)))) λa E=>?_;refine RH 0 E I hH hC λa E=>?_;refine CL 0 E I (S5 (I.pick (Room r b ps)) gv hR hf) λa w E I=>?_;refine RN 5 E I λa E=>?_;refine RN 4 E I λa E=>?_;replace E:=E.aN 53;refine bQ 2 [6] [0,1,2,4,5,3003,1006,1007] E I λa w E I hH hC=>?_;refine RH 6 E I hH hC λa E=>?_;refine SS E (ag E (I.bB (aC.at (by omega)))) λa E=>?_;refine RH 0 E I hH hC λa E=>?_;refine CL 0 E I (HL (I.pick (Room r b (ps.set f ⟨ps[x.p (c/8)].g,1⟩))) kD (by rw[e1];exact hR)) λa w E I=>?_;rw[e1]at I;refine ST 3 E I (λa w E I=>?_) (hlt:=(by rw[aC.len];omega));rw[aC.To (by omega) (cd x.g c v)]at I;refine bQ 1 [6] [0,1,2,4,5,7,8,9,3003,1006,1010,11] E I λa w E I hH hC=>?_;refine RH 6 E I hH hC λa E=>?_;refine QP E (λw=>y0 E (by decide)) λa E=>?_;rw[show (c:Int).tmod 8=((c%8:Nat):Int) from nP c 8]at E;refine RH 2 E I hH hC λa E=>?_;refine SS E (ag E (I.bB (aC.at (x:={ x with p:=λj=>if j=c/8 then f else x.p j,g:=cd x.g c v }) (by omega)))) λa E=>?_;simp only[if_true]at E;refine RH 0 E I hH hC λa E=>?_;refine CL 0 E I (Cn (I.pick (Room r b ((ps.set f ⟨ps[x.p (c/8)].g,1⟩).set (x.p (c/8)) ⟨ps[x.p (c/8)].g,ps[x.p (c/8)].refs-1⟩))) l3 (by rw[e2]) (Nat.mod_lt c (by decide))) λa w E I=>?_;rw[e2,ft]at I;refine RN 1 E I λa E=>?_;refine RT 0 E I ?_;exact⟨f,rfl,⟨hr.len ▸ iV,Cz⟩,aw.tB (B:=A.tA i x c v f) (last:=A.last) (b:=b) (m:=m) (pb:=pb) (y:={ x with p:=λj=>if j=c/8 then f else x.p j,g:=cd x.g c v }) I a8 h2 rfl rfl (hw.put hx) (hr.tA hx hc h1 v gv iV jr)⟩
theorem TM {c:Nat}{v:Int}(I:U W w (aw q r A::L))(hx:A.au[i]?=some x)(hc:c<32)(h1:1<cJ A.au (x.p (c/8)))(hu:A.room≤A.used) :
   Calls prog 346 #[pt q,.int .i64 x.id,.int .i64 c,.int .i32 v] w λe V=>e=.returned (.bool false)∧U W V (aw q r A::L):=by
 obtain⟨b,m,ps,xs,h2,hw,hr,I⟩:=aw.open I;obtain⟨pb,a8⟩:=p0 h2 hx;obtain⟨gv,hR,r8⟩:=hr.live (bK hx) (k:=c/8) (by omega);have vm:ps[x.p (c/8)].refs=cJ A.au (x.p (c/8)):=hr.refs _ _ (aI gv);rcases Co ps with bU | ⟨f,hf⟩
 rotate_left
 ·have:=TK hf;rw[hr.used,hr.len]at this;omega
 refine EN func346 ntmps346 rfl rfl λa E=>?_;refine CL 5 E I (p1 I h2 hw a8) λa w E I=>?_;refine RN 6 E I λa E=>?_;replace E:=E.aN 18;refine RN 4 E I λa E=>?_;rw[bn (by omega)]at E;refine RN 3 E I λa E=>?_;rw[bn (by omega)]at E;refine RN 2 E I λa E=>?_;replace I:=I.qJ a8;refine RN 2 E I λa E=>?_;refine SS E (vc E (by decide) (zj (by omega))) λa E=>?_;rw[show (c:Int).tdiv 8=((c/8:Nat):Int) from qy c 8]at E;refine bQ 6 [6] [0,1,2,4,5,3003,1006,1007,8] E I λa w E I hH hC=>?_;refine RH 6 E I hH hC λa E=>?_;refine SS E (ag E (I.bB (aC.at (by omega)))) λa E=>?_;refine RH 0 E I hH hC λa E=>?_;refine CL 0 E I (y7 (I.pick (Room r b ps)) gv hR) λa w E I=>?_;refine RN 1 E I λa E=>?_;rw[dk (by omega)]at E;refine bQ 2 [6] [0,1,2,4,5,3003,1006,1007,8,9,10,11,12] E I λa w E I hH hC=>?_;refine RH 6 E I hH hC λa E=>?_;refine SS E (ag E (I.bB (aC.at (by omega)))) λa E=>?_;refine RH 0 E I hH hC λa E=>?_;refine CL 0 E I (S4 (I.pick (Room r b ps)) gv hR bU) λa w E I=>?_;refine RN 5 E I λa E=>?_;refine RN 4 E I λa E=>?_;replace E:=E.ef 53;refine RT 3 E I ?_;exact⟨rfl,aw.tB (b:=b) (m:=m) (ps:=ps) (pb:=pb) (y:=x) I a8 h2 rfl (xc hx) hw hr⟩
end
end
end Go.Proofs.YteoldcfapaiobaaGreat
