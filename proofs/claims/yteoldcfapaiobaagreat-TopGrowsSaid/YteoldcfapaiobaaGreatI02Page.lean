/- The walks of package page. -/
import Derived.Test.YteoldcfapaiobaaGreatI01Row
import Derived.Maps.Own
import Derived.Shelf.SlIterI.Nil
import Derived.Shelf.SortM.Plain
import Derived.Shelf.SortM.SortNone
import Derived.DataShut
namespace Go.Proofs.YteoldcfapaiobaaGreat
open Tryz
open List (drop_zero take_zero nil_append map_cons getElem?_cons_succ length_nil mem_range getElem?_toArray getElem?_range ext_getElem eraseIdx_set_eq ext_getElem? set_set map_take map_drop map_nil range_succ countP_congr getElem?_set_ne getElem?_set_self)
open Go.RowKit
set_option linter.unusedVariables false
set_option linter.unusedSimpArgs false
set_option maxRecDepth 10000
set_option synthInstance.maxSize 4000
set_option synthInstance.maxHeartbeats 400000
section
structure Pg where
 g:Nat→Int
 refs:Nat
def Pg.cells (p:Pg):List Value:=ints .i32 8 p.g++[.int .i64 p.refs]
def iw (ps:List Pg):List Value:=rows Pg.cells ps
def tu:Pg:=⟨λ_=>0,0⟩
def pU:Pg:=⟨λ_=>0,1⟩
theorem Pg.len (p:Pg):p.cells.length=9:=by simp[Pg.cells,dk]
theorem wY (ps:List Pg):(iw ps).length=ps.length*9:=jC Pg.len ps
theorem Pg.one (p:Pg):∀ v∈p.cells,v.oneCell'=true:=by
 intro v hv;rcases e7.1 hv with h | h
 ·exact u0 v h
 ·simp at h;subst h;rfl
theorem tv {ps:List Pg}{i:Nat}(h:i<ps.length):(iw ps)[i*9+8]?=some (.int .i64 ps[i].refs):=Ey Pg.len ps h (by simp[Pg.cells,dk])
theorem VT {ps:List Pg}{i k:Nat}(h:i<ps.length)(hk:k<8):(iw ps)[i*9+k]?=some (.int .i32 (ps[i].g k)):=Ey Pg.len ps h (by
 rw[Pg.cells,mM (by rw[dk];exact hk),ga _ hk])
theorem Kz {ps:List Pg}{i r:Nat}(h:i<ps.length):(iw ps).set (i*9+8) (.int .i64 r)=iw (ps.set i ⟨ps[i].g,r⟩):=qO Pg.len ps _ h (by decide) (by
 rw[Pg.cells,wH _ _ (by rw[dk];exact a7 _),dk];rfl)
theorem VU {ps:List Pg}{i k:Nat}{v:Int}(h:i<ps.length)(hk:k<8):(iw ps).set (i*9+k) (.int .i32 v)=iw (ps.set i ⟨λj=>if j=k then v else ps[i].g j,ps[i].refs⟩):=qO Pg.len ps _ h (by omega) (by
 rw[Pg.cells,uW _ _ (by rw[dk];exact hk),ints_set];rfl)
theorem VV {ps:List Pg}{i:Nat}(p:Pg)(h:i<ps.length):cH (iw ps) (i*9) p.cells=iw (ps.set i p):=Kg Pg.len ps p h
theorem VW {ps:List Pg}{i:Nat}(h:i<ps.length):((iw ps).drop (i*9)).take 8=ints .i32 8 ps[i].g:=by
 have:=Ta (k:=0) (m:=8) Pg.len ps h (by decide);simp only[Nat.add_zero,drop_zero]at this;rw[iw,this,Pg.cells,List.take_left' (dk _ _ _)]
theorem VX {ps:List Pg}{i:Nat}{g:Nat→Int}(h:i<ps.length):cH (iw ps) (i*9) (ints .i32 8 g)=iw (ps.set i ⟨g,ps[i].refs⟩):=by
 have:=S9 (k:=0) (vs:=ints .i32 8 g) Pg.len ps ⟨g,ps[i].refs⟩ h (by rw[dk];decide) (by
  simp only[cH,Pg.cells,take_zero,nil_append,dk,ei];rw[List.drop_left' (dk _ _ _)])
 rw[Nat.add_zero]at this;exact this
def Room (q b:Nat)(ps:List Pg):SP:=λh=>(ps.length≤200∧∀ p∈ps,p.refs<4611686018427387904)∧cp [aa q 224 [.slice (some ⟨b,0,none⟩) ps.length ps.length],aa b 227 (iw ps)] h
theorem Room.open {W w:World}{L:List SP}{q b:Nat}{ps:List Pg}(I:U W w (Room q b ps::L)):(ps.length≤200∧∀ p∈ps,p.refs<4611686018427387904) ∧
   U W w (aa q 224 [.slice (some ⟨b,0,none⟩) ps.length ps.length]::aa b 227 (iw ps)::L) :=
 ⟨I.tell λ_ h=>h.1,I.open λ_ h=>h.2⟩
theorem Room.close {W w:World}{L L' R:List SP}{q b n:Nat}{ps:List Pg}(I:U W w L)(hn:ps.length=n)(h:ps.length≤200∧∀ p∈ps,p.refs<4611686018427387904)
   [k:fM L (aa q 224 [.slice (some ⟨b,0,none⟩) n n]::aa b 227 (iw ps)::L') R]:U W w (Room q b ps::L'):=by
 subst hn;exact U.shut (M:=[_,_]) (I.sub (M:=aa q 224 [.slice (some ⟨b,0,none⟩) ps.length ps.length]::aa b 227 (iw ps)::L')) (λ_ x=>⟨h,x⟩)
theorem VY (n:Nat):(madeCells (Value.cells (.agg #[.int .i32 0,.int .i32 0,.int .i32 0,.int .i32 0,.int .i32 0,.int .i32 0,.int .i32 0,.int .i32 0,.int .i64 0])) (n*9)).toList=iw (List.replicate n tu):=by
 apply ext_getElem?;intro i;by_cases hi:i<n*9
 ·obtain⟨j,k,hk,rfl⟩:∃ j k,k<9∧i=j*9+k:=⟨i/9,i%9,Nat.mod_lt _ (by decide),by omega⟩;have hj:j<(List.replicate n tu).length:=by simp;omega
  have hv:(Pg.cells tu)[k]?=some ((Pg.cells tu)[k]'(by rw[Pg.len];exact hk)):=aD _;rw[iw,Ey Pg.len _ hj (by rw[List.getElem_replicate];exact hv)];simp only[madeCells,Value.cells,Array.toList_map,bd];rw[Array.toList_range,getElem?_range hi];have h1:(j*9+k)%9=k:=by omega
  simp only[Option.map_some,List.size_toArray,eV,length_nil,Nat.reduceAdd,h1,Option.some.injEq];rcases k with _ | _ | _ | _ | _ | _ | _ | _ | _ | k <;> first | rfl | omega
 ·rw[iO,iO]
  ·rw[wY];simp;omega
  ·simp[madeCells];omega
theorem VZ {W w:World}{L:List SP}{n:Nat}(I:U W w L)(hn:n≤200) :
   Calls prog 124 #[.int .i64 n] w λe w'=>∃ q b,e=.returned (pt q)∧U W w' (Room q b (List.replicate n tu)::L):=by
 refine EN func124 ntmps124 rfl rfl λa E=>?_;refine RN 6 E I λa E=>?_;rw[show min (max (n:Int) 0) 200=(n:Int) from by omega]at E;refine rO E rfl I underlying222 Ty.t227 rfl (by omega) (by omega) λcJ a w E I ho=>?_;clear ho;rw[VY]at I;refine BX 1 E I λb8 a w E I=>?_;refine RT 1 E I ?_;refine⟨b8,cJ,rfl,(Room.close (n:=_) I kN ⟨by simp;exact hn,?_⟩)⟩;intro p hp;rw[(List.mem_replicate.1 hp).2];decide
section
variable {W w:World}{L:List SP}{q b i:Nat}{ps:List Pg}
theorem tx (I:U W w (Room q b ps::L))(hi:i<ps.length)(hr:0<ps[i].refs) :
   Calls prog 122 #[pt q,.int .i64 ((i:Int)+1)] w λe w'=>e=.returned (.pointer (some ⟨b,i*9,none⟩))∧U W w' (Room q b ps::L):=by
 obtain⟨hp,I⟩:=Room.open I;refine EN func122 ntmps122 rfl rfl λa E=>?_;refine RN 7 E I λa E=>?_;replace E:=E.aQ 7;refine RN 4 E I λa E=>?_;rw[bu (by omega)]at E;refine RN 9 E I λa E=>?_;rw[bu (by omega)]at E;refine RN 6 E I λa E=>?_;rw[show (i:Int)+1-1=(i:Int) from by omega]at E;refine RN 2 E I λa E=>?_;refine bA E (cv E rfl (s:=20)) (ae E (I.bC (tv hi))) rfl λa E=>?_;refine RN 2 E I λa E=>?_;rw[bu (by omega)]at E;refine RN 8 E I λa E=>?_;rw[show (i:Int)+1-1=(i:Int) from by omega]at E;refine RT 2 E I ?_;exact⟨rfl,(Room.close (n:=_) I rfl hp)⟩
theorem U.KA {R:List SP}{e:Nat}(I:U W w L)[k:fL L b e (iw ps) R](hi:i<ps.length):Rd w b (i*9) (ints .i32 8 ps[i].g):=by
 rw[← VW hi];exact I.qD 8
theorem U.V0 {R:List SP}{e:Nat}(I:U W w L)[k:fL L b e (iw ps) R](hi:i<ps.length):Rd w b (i*9) ps[i].cells:=by
 rw[← wM Pg.len ps i hi];exact I.qD 9
theorem Bn (I:U W w (Room q b ps::L))(hi:i<ps.length)(hr:0<ps[i].refs) :
   Calls prog 86 #[pt q,.int .i64 ((i:Int)+1)] w λe w'=>e=.returned (.int .i64 ps[i].refs)∧U W w' (Room q b ps::L):=by
 refine EN func86 ntmps86 rfl rfl λa E=>?_;refine CL 5 E I (tx I hi hr) λa w E I=>?_;refine RN 5 E I λa E=>?_;replace E:=E.aQ 10;refine RN 2 E I λa E=>?_;obtain⟨hp,I⟩:=Room.open I;refine RN 3 E I λa E=>?_;refine SS E (ae E (I.bC (tv hi))) λa E=>?_;refine RT 1 E I ?_;exact⟨rfl,(Room.close (n:=_) I rfl hp)⟩
theorem yS {ps:List Pg}{i r:Nat}{g:Nat→Int}(hp:ps.length≤200∧∀ p∈ps,p.refs<4611686018427387904)(hr:r<4611686018427387904) :
   (ps.set i ⟨g,r⟩).length≤200∧∀ p∈ps.set i ⟨g,r⟩,p.refs<4611686018427387904:=by
 refine⟨by rw[bz];exact hp.1,λp h=>?_⟩;rcases r5 h with h | h
 ·exact hp.2 p h
 ·rw[h];exact hr
theorem V1 (I:U W w (Room q b ps::L))(hi:i<ps.length)(hr:0<ps[i].refs)(hb:ps[i].refs+1<4611686018427387904) :
   Calls prog 208 #[pt q,.int .i64 ((i:Int)+1)] w λe w'=>e=.returned (.bool true)∧U W w' (Room q b (ps.set i ⟨ps[i].g,ps[i].refs+1⟩)::L):=by
 refine EN func208 ntmps208 rfl rfl λa E=>?_;refine CL 5 E I (tx I hi hr) λa w E I=>?_;refine RN 5 E I λa E=>?_;replace E:=E.ek 10;refine RN 1 E I λa E=>?_;obtain⟨hp,I⟩:=Room.open I;refine RN 3 E I λa E=>?_;refine SS E (ae E (I.bC (tv hi))) λa E=>?_;refine ST 3 E I (λa w E I=>?_) (hlt:=(by rw[wY];omega));rw[show ((ps[i].refs:Int)+1)=((ps[i].refs+1:Nat):Int) from rfl,Kz hi]at I;refine RT 4 E I ?_;exact⟨rfl,(Room.close (n:=ps.length) I bz (yS hp hb))⟩
theorem KB (I:U W w (Room q b ps::L))(hi:i<ps.length)(hr:0<ps[i].refs) :
   Calls prog 213 #[pt q,.int .i64 ((i:Int)+1)] w λe w'=>e=.returned (.bool true)∧U W w' (Room q b (ps.set i ⟨ps[i].g,ps[i].refs-1⟩)::L):=by
 refine EN func213 ntmps213 rfl rfl λa E=>?_;refine CL 5 E I (tx I hi hr) λa w E I=>?_;refine RN 5 E I λa E=>?_;replace E:=E.ek 10;refine RN 1 E I λa E=>?_;obtain⟨hp,I⟩:=Room.open I;have hb:=hp.2 _ (jj hi);refine RN 3 E I λa E=>?_;refine SS E (ae E (I.bC (tv hi))) λa E=>?_;refine ST 3 E I (λa w E I=>?_) (hlt:=(by rw[wY];omega));rw[show ((ps[i].refs:Int)-1)=((ps[i].refs-1:Nat):Int) from by omega,Kz hi]at I;refine RT 4 E I ?_;exact⟨rfl,(Room.close (n:=ps.length) I bz (yS hp (by omega)))⟩
theorem V2 {k:Nat}(I:U W w (Room q b ps::L))(hi:i<ps.length)(hr:0<ps[i].refs)(hk:k<8) :
   Calls prog 323 #[pt q,.int .i64 ((i:Int)+1),.int .i64 k] w λe w'=>e=.returned (.tuple #[.int .i32 (ps[i].g k),.bool true])∧U W w' (Room q b ps::L):=by
 refine EN func323 ntmps323 rfl rfl λa E=>?_;refine CL 6 E I (tx I hi hr) λa w E I=>?_;refine RN 6 E I λa E=>?_;replace E:=E.aQ 14;refine RN 4 E I λa E=>?_;rw[bu (by omega)]at E;refine RN 3 E I λa E=>?_;rw[bu (by omega)]at E;refine RN 2 E I λa E=>?_;obtain⟨hp,I⟩:=Room.open I;refine RN 5 E I λa E=>?_;refine SS E (ae E (I.bC (VT hi hk))) λa E=>?_;refine RT 2 E I ?_;exact⟨rfl,(Room.close (n:=_) I rfl hp)⟩
theorem E5 {k:Nat}{v:Int}(I:U W w (Room q b ps::L))(hi:i<ps.length)(hr:ps[i].refs=1)(hk:k<8) :
   Calls prog 128 #[pt q,.int .i64 ((i:Int)+1),.int .i64 k,.int .i32 v] w λe w'=>e=.returned (.bool true)∧U W w' (Room q b (ps.set i ⟨λj=>if j=k then v else ps[i].g j,1⟩)::L):=by
 refine EN func128 ntmps128 rfl rfl λa E=>?_;refine CL 5 E I (tx I hi (by omega)) λa w E I=>?_;refine RN 6 E I λa E=>?_;replace E:=E.aQ 15;refine RN 4 E I λa E=>?_;rw[bu (by omega)]at E;refine RN 4 E I λa E=>?_;obtain⟨hp,I⟩:=Room.open I;rw[bu (by omega)]at E;refine RN 3 E I λa E=>?_;refine bA E (cv E rfl (s:=23)) (ae E (I.bC (tv hi))) rfl λa E=>?_;refine RN 2 E I λa E=>?_;rw[bu (by omega)]at E;refine ST 8 E I (λa w E I=>?_) (hlt:=(by rw[wY];omega));rw[VU hi hk,hr]at I;refine RT 2 E I ?_;exact⟨rfl,(Room.close (n:=ps.length) I bz (yS hp (by omega)))⟩
def u6 (ps:List Pg)(i:Nat):Prop:=∃ h:i<ps.length,ps[i].refs=0∧∀ j,(hj:j<i)→0<ps[j].refs
def Bo (ps:List Pg):Prop:=∀ j,(h:j<ps.length)→0<ps[j].refs
theorem E6 (ps:List Pg):Bo ps∨∃ i,u6 ps i:=by
 have aux:∀ n,(∀ j,(h:j<ps.length)→j<n→0<ps[j].refs)∨∃ i,u6 ps i:=by
  intro n
  induction n with
  | zero=>exact .inl λj _ h=>by omega
  | succ n ih =>
   rcases ih with h | h
   ·by_cases hn:n<ps.length
    ·by_cases h0:ps[n].refs=0
     ·exact .inr ⟨n,hn,h0,λj hj=>h j (by omega) hj⟩
     ·refine .inl λj hj qR=>?_;rcases gX j n with h1 | h1
      ·exact h j hj h1
      ·obtain rfl:j=n:=by omega
       omega
    ·exact .inl λj hj qR=>h j hj (by omega)
   ·exact .inr h
 rcases aux ps.length with h | h
 ·exact .inl λj hj=>h j hj hj
 ·exact .inr h
theorem KC (I:U W w (Room q b ps::L))(hf:u6 ps i) :
   Calls prog 126 #[pt q] w λe w'=>e=.returned (.tuple #[.int .i64 ((i:Int)+1),.bool true])∧U W w' (Room q b (ps.set i pU)::L):=by
 obtain⟨hi,h0,E7⟩:=hf;obtain⟨hp,I⟩:=Room.open I;refine EN func126 ntmps126 rfl rfl λa E=>?_;refine RN 7 E I λa E=>?_;replace E:=E.aQ 6;refine RN 9 E I λa E=>?_;refine aL (λμ a w=>∃ k:Nat,(μ=i-k∧k≤i)∧Fr a 34 [(0,pt q),(11,.int .i64 ps.length),(12,.int .i64 k)]∧U W w (aa q 224 [.slice (some ⟨b,0,none⟩) ps.length ps.length]::aa b 227 (iw ps)::L)) (i) (⟨0,⟨by simp,by simp⟩,E.ab [0,11,12],I.sub⟩) ?_;clear E I;rintro μ a w ⟨k,⟨rfl,hk⟩,E,I⟩;refine RN 3 E I λa E=>?_;rw[dr (by omega)]at E;refine RN 13 E I λa E=>?_;refine SS E (ae E (I.bC (tv (by omega)))) λa E=>?_;refine IF 1 E I (λay a E=>?_) λay a E=>?_
 ·
  obtain rfl : k = i := by
      rcases gX k i with h | h
      ·have:=E7 k h;omega
      ·omega
  refine RN 8 E I λa E=>?_;refine rI E rfl I Ty.t227 (by simp[Value.oneCell']) (by rw[wY];simp;omega) λa w E I=>?_;replace I:=I.j5 b;change U W w (aa b 227 (cH (iw ps) (k*9) pU.cells)::_) at I;rw[VV pU hi]at I;refine RT 5 E I ?_;exact⟨rfl,(Room.close (n:=ps.length) I bz (yS (g:=λ_=>0) (r:=1) hp (by omega)))⟩
 have J6 : k < i := by
     rcases gX k i with h | h
     ·exact h
     ·obtain rfl:k=i:=by omega
      omega
 refine RN 2 E I λa E=>?_;exact⟨i-(k+1),by omega,k+1,⟨rfl,by omega⟩,E.ab [0,11,12],I.sub⟩
theorem V3 (I:U W w (Room q b ps::L))(hf:Bo ps) :
   Calls prog 126 #[pt q] w λe w'=>e=.returned (.tuple #[.int .i64 0,.bool false])∧U W w' (Room q b ps::L):=by
 obtain⟨hp,I⟩:=Room.open I;refine EN func126 ntmps126 rfl rfl λa E=>?_;refine RN 7 E I λa E=>?_;replace E:=E.aQ 6;refine RN 9 E I λa E=>?_;refine aL (λμ a w=>∃ k:Nat,(μ=ps.length-k∧k≤ps.length)∧Fr a 34 [(0,pt q),(11,.int .i64 ps.length),(12,.int .i64 k)]∧U W w (aa q 224 [.slice (some ⟨b,0,none⟩) ps.length ps.length]::aa b 227 (iw ps)::L)) (ps.length) (⟨0,⟨by simp,by simp⟩,E.ab [0,11,12],I.sub⟩) ?_;clear E I;rintro μ a w ⟨k,⟨rfl,hk⟩,E,I⟩;refine IF 3 E I (λao a E=>?_) λao a E=>?_
 ·
  refine RN 12 E I λa E=>?_;have ch:=hf k (by omega);refine SS E (ae E (I.bC (tv (by omega)))) λa E=>?_;refine RN 1 E I λa E=>?_;rw[bu (by omega)]at E;refine RN 3 E I λa E=>?_;exact⟨ps.length-(k+1),by omega,k+1,⟨rfl,by omega⟩,E.ab [0,11,12],I.sub⟩
 refine RT 3 E I ?_;exact⟨rfl,(Room.close (n:=_) I rfl hp)⟩
theorem V4 (I:U W w (Room q b ps::L))(hi:i<ps.length)(hr:0<ps[i].refs)(hf:Bo ps) :
   Calls prog 347 #[pt q,.int .i64 ((i:Int)+1)] w λe w'=>e=.returned (.tuple #[.int .i64 0,.bool false])∧U W w' (Room q b ps::L):=by
 refine EN func347 ntmps347 rfl rfl λa E=>?_;refine CL 6 E I (tx I hi hr) λa w E I=>?_;refine RN 5 E I λa E=>?_;replace E:=E.aQ 13;refine CL 3 E I (V3 I hf) λa w E I=>?_;refine RN 8 E I λa E=>?_;replace E:=E.aQ 19;refine RT 6 E I ?_;exact⟨rfl,I⟩
theorem V5 {k:Nat}(I:U W w (Room q b ps::L))(hi:i<ps.length)(hr:0<ps[i].refs)(hf:u6 ps k) :
   Calls prog 347 #[pt q,.int .i64 ((i:Int)+1)] w λe w'=>e=.returned (.tuple #[.int .i64 ((k:Int)+1),.bool true])∧U W w' (Room q b (ps.set k ⟨ps[i].g,1⟩)::L):=by
 have hk:=hf.1;have bq:k≠i:=by
  rintro rfl;obtain⟨_,h,_⟩:=hf;omega
 have dR:k<(ps.set k pU).length:=by rw[bz];exact hk
 have aG:i<(ps.set k pU).length:=by rw[bz];exact hi
 have e1:(ps.set k pU)[k]=pU:=by rw[oP]
 have e2:(ps.set k pU)[i]=ps[i]:=by rw[List.getElem_set_ne bq]
 refine EN func347 ntmps347 rfl rfl λa E=>?_;refine CL 6 E I (tx I hi hr) λa w E I=>?_;refine RN 5 E I λa E=>?_;replace E:=E.aQ 13;refine CL 3 E I (KC I hf) λa w E I=>?_;refine RN 8 E I λa E=>?_;replace E:=E.ek 19;refine aV 1 (λw0 w'=>Rd w' b (i*9) (ints .i32 8 ps[i].g)) [2] [0,1,3,4,5,3006,1002,7,8,1009] E I λa w E I hH=>?_
 have hC : Rd w b (i * 9) (ints .i32 8 ps[i].g) := by
     have:=U.KA (b:=b) (e:=227) (Room.open I).2 aG
     rwa [e2]at this
 refine RH 5 E I hH hC λa E=>?_;refine QH E (λw hc=>bT E EZ rfl Ty.t225 (hc)) hC λa E=>?_;refine RH 0 E I hH hC λa E=>?_;refine CL 0 E I (tx I dR (by rw[e1];decide)) λa w E I=>?_
 replace hC : (fun w' => Rd w' b (i * 9) (ints .i32 8 ps[i].g)) w := by
     have:=U.KA (b:=b) (e:=227) (Room.open I).2 aG
     rwa [e2]at this
 refine RH 2 E I hH hC λa E=>?_;obtain⟨hp,I⟩:=Room.open I;refine rI E rfl I Ty.t225 u0 (by rw[wY,dk];omega) λa w E I=>?_;rw[VX dR,set_set,e1,show pU.refs=1 from rfl]at I;refine RT 5 E I ?_;exact⟨rfl,(Room.close (n:=(ps.set k pU).length) I (by rw[bz,bz]) (by have:=yS (g:=ps[i].g) (r:=1) (i:=k) hp (by decide);rwa [set_set]at this))⟩
def kb (ps:List Pg):Nat:=ps.countP λp=>decide (0<p.refs)
theorem wZ (ps:List Pg):kb ps≤ps.length:=List.countP_le_length
theorem V6 {ps:List Pg}{k:Nat}(h:k<ps.length):kb (ps.take (k+1))=kb (ps.take k)+if 0<ps[k].refs then 1 else 0:=by
 rw[kb,jD h,List.countP_append,kb,List.countP_singleton];by_cases h:0<ps[k].refs <;> simp[h]
theorem KD (I:U W w (Room q b ps::L)) :
   Calls prog 84 #[pt q] w λe w'=>e=.returned (.int .i64 (kb ps))∧U W w' (Room q b ps::L):=by
 obtain⟨hp,I⟩:=Room.open I;refine EN func84 ntmps84 rfl rfl λa E=>?_;refine RN 6 E I λa E=>?_;replace E:=E.aQ 7;refine RN 11 E I λa E=>?_;refine aL (λμ a w=>∃ k:Nat,(μ=ps.length-k∧k≤ps.length)∧Fr a 24 [(3,.int .i64 (kb (ps.take k))),(11,.slice (some ⟨b,0,none⟩) ps.length ps.length),(12,.int .i64 ps.length),(13,.int .i64 k)]∧U W w (aa q 224 [.slice (some ⟨b,0,none⟩) ps.length ps.length]::aa b 227 (iw ps)::L)) (ps.length) (⟨0,⟨by simp,by simp⟩,E.ab [3,11,12,13],I.sub⟩) ?_;clear E I;rintro μ a w ⟨k,⟨rfl,hk⟩,E,I⟩;have r7:=wZ (ps.take k);rw[eA]at r7;refine IF 3 E I (λao a E=>?_) λao a E=>?_
 ·
  have mR:k<ps.length:=by omega
  have Bp:=V6 mR;refine RN 3 E I λa E=>?_;refine SS E (bT E EU rfl Ty.t227 (I.V0 mR)) λa E=>?_;refine AL 0 E I λb5 a w E I=>?_;refine RN 0 E I λa E=>?_;refine rI E rfl I Ty.t227 (Pg.one _) (by rw[Pg.len];exact a7 _) λa w E I=>?_;rw[show cH _ 0 ps[k].cells=ps[k].cells from by simp[cH,Pg.len]]at I;refine RN 2 E I λa E=>?_;refine SS E (ae E (I.bC (show ps[k].cells[8]?=some (.int .i64 ps[k].refs) from by simp[Pg.cells,dk]))) λa E=>?_;refine IF 1 E I (λay a E=>?_) λay a E=>?_
  ·
   rw[aj (by omega)]at Bp;refine RN 5 E I λa E=>?_;exact⟨ps.length-(k+1),by omega,k+1,⟨rfl,by omega⟩,by rw[Bp];exact E.ab [3,11,12,13],I.sub⟩
  rw[ag (by omega)]at Bp;refine RN 2 E I λa E=>?_;exact⟨ps.length-(k+1),by omega,k+1,⟨rfl,by omega⟩,by rw[Bp];exact E.ab [3,11,12,13],I.sub⟩
 refine RT 3 E I ?_;obtain rfl:k=ps.length:=by omega
 rw[lf];exact⟨rfl,(Room.close (n:=_) I rfl hp)⟩
theorem V7 (I:U W w (Room q b ps::L)) :
   Calls prog 166 #[pt q] w λe w'=>e=.returned (.int .i64 ((ps.length-kb ps:Nat):Int))∧U W w' (Room q b ps::L):=by
 have r7:=wZ ps;have hp:=(Room.open I).1;refine EN func166 ntmps166 rfl rfl λa E=>?_;refine RN 6 E I λa E=>?_;replace E:=E.aQ 4;refine aV 2 (λw0 w'=>w'.cell? ⟨q,0,none⟩=some (.slice (some ⟨b,0,none⟩) ps.length ps.length)) [6] [0,1,2,5,3003,4,1006,7,8] E I λa w E I hH=>?_;have hC:=hH.at w ((Room.open I).2.bC rfl);refine RH 4 E I hH hC λa E=>?_;refine QH E (λw hc=>ae E (hc)) hC λa E=>?_;refine RH 1 E I hH hC λa E=>?_;refine CL 0 E I (KD I) λa w E I=>?_;replace hC:=hH.at w ((Room.open I).2.bC rfl);refine RH 2 E I hH hC λa E=>?_;refine RT 0 E I ?_;exact⟨by rw[show ((ps.length-kb ps:Nat):Int)=(ps.length:Int)-(kb ps:Int) from by omega],I⟩
end
end
section
def ml (es:Array MapEntry)(clock:Nat)(kvs:List (Int×Value)):Prop :=
 es.toList.map (λe=>(e.key,e.val))=kvs.map (λp=>(Value.int .i64 p.1,p.2))∧MapKept.Stamped es clock∧∀ p∈kvs,(Lit.int .i64 p.1).wf=true
def mp (b:Nat)(kvs:List (Int×Value)):SP:=λh=>∃ es clock,h b=some (.map es clock)∧ml es clock kvs
def nx:List (Int×Value)→Int→Nat→Option (Nat×Value)
 | [],_,_=>none
 | p::r,k,i=>if p.1=k then some (i,p.2) else nx r k (i+1)
theorem KE {kvs:List (Int×Value)}{k:Int}(h:∀ p∈kvs,p.1≠k):∀ i,nx kvs k i=none:=by
 induction kvs with
 | nil=>intro i;rfl
 | cons p r ih =>
  intro i;rw[nx,ag (h p iq)];exact ih (λq hq=>h q (gx _ hq)) _
theorem V8 {kvs:List (Int×Value)}{k:Int}{v:Value}:∀ {j:Nat} (i:Nat),kvs[j]?=some (k,v)→(∀ j',j'<j→∀ p,kvs[j']?=some p→p.1≠k)→nx kvs k i=some (i+j,v):=by
 induction kvs with
 | nil=>intro j i h;simp at h
 | cons p r ih =>
  intro j i h hl;cases j with
  | zero=>simp at h;subst h;simp[nx]
  | succ j =>
   rw[nx,ag (hl 0 (by omega) p rfl),ih (i+1) (by simpa using h) (λj' hj q hq=>hl (j'+1) (by omega) q (by simpa using hq))];rw[show i+1+j=i+(j+1) from by omega]
theorem KF (k:Int):∀ (es:List MapEntry) (kvs:List (Int×Value)) (i:Nat),es.map (λe=>(e.key,e.val))=kvs.map (λp=>(Value.int .i64 p.1,p.2))→Instr.findNow (.int .i64) (.int .i64 k) es i=some (nx kvs k i)
 | [],[],i,_=>rfl
 | [],_::_,_,h=>by simp at h
 | _::_,[],_,h=>by simp at h
 | e::es,p::kvs,i,h=>by
  simp only[map_cons,List.cons.injEq,Prod.mk.injEq]at h;obtain⟨⟨h1,h2⟩,h3⟩:=h;simp only[Instr.findNow,h1,Instr.sameNow,nx];by_cases hk:p.1=k
  ·simp[hk,h2]
  ·have:(k==p.1)=false:=by simp;exact λe=>hk e.symm
   simp only[this,ag hk];exact KF k es kvs (i+1) h3
theorem yT {α β:Type}(f:α→β)(l:List α)(i:Nat):(l.eraseIdx i).map f=(l.map f).eraseIdx i:=by
 simp only[th,cY,map_take,map_drop]
section
variable {W w:World}{L:List SP}{b:Nat}{kvs:List (Int×Value)}
theorem U.Bq (I:U W w (mp b kvs::L)):∃ es clock,ml es clock kvs∧U W w (k5 b (.map es clock)::L):=by
 obtain⟨⟨es,clock⟩,h1,h2⟩:=I.jS (ι:=Array MapEntry×Nat) (p:=λi=>ml i.1 i.2 kvs) (B:=λi=>k5 b (.map i.1 i.2)) (λh ⟨es,clock,h1,h2⟩=>⟨(es,clock),h2,h1⟩);exact⟨es,clock,h1,h2⟩
theorem U.E8 {es:Array MapEntry}{clock:Nat}(I:U W w (k5 b (.map es clock)::L))(h:ml es clock kvs):U W w (mp b kvs::L) :=
 U.shut (M:=[_]) I (λ_ x=>by
  obtain⟨_,_,_,a,_,y,_⟩:=x;exact⟨es,clock,a _ _ y,h⟩)
theorem ml.nil:ml #[] 0 []:=⟨rfl,⟨by simp,by simp,by simp⟩,by simp⟩
theorem ml.push {es:Array MapEntry}{clock:Nat}{k:Int}{v:Value}(h:ml es clock kvs)(hw:(Lit.int .i64 k).wf=true)(hn:∀ p∈kvs,p.1≠k):ml (es.push ⟨.int .i64 k,v,clock⟩) (clock+1) (kvs++[(k,v)]):=by
 obtain⟨h1,⟨h2,h3,h4⟩,h5⟩:=h;refine⟨by simp[h1],⟨λx hx=>?_,?_,?_⟩,λp hp=>?_⟩
 ·simp only[Array.toList_push,e7,iP]at hx;rcases hx with hx | rfl
  ·have:=h2 x hx;omega
  ·exact Nat.lt_succ_self _
 ·simp only[Array.toList_push,cY,map_cons,map_nil];refine List.nodup_append.2 ⟨h3,by simp,λx hx y hy=>?_⟩;simp only[cX]at hx;obtain⟨e,he,rfl⟩:=hx;have:=h2 e he;simp at hy;omega
 ·simp only[Array.toList_push,cY,map_cons,map_nil];refine List.nodup_append.2 ⟨h4,by simp,λx hx y hy=>?_⟩;simp only[cX]at hx;obtain⟨e,he,rfl⟩:=hx;have hm:(e.key,e.val)∈es.toList.map (λe=>(e.key,e.val)):=cX.2 ⟨e,he,rfl⟩;rw[h1]at hm;obtain⟨p,hp,pV⟩:=cX.1 hm;simp only[Prod.mk.injEq]at pV;simp at hy;rw[hy,← pV.1];intro e2;simp at e2;exact hn p hp e2
 ·rcases e7.1 hp with h | h
  ·exact h5 p h
  ·simp at h;subst h;exact hw
theorem ml.erase {es:Array MapEntry}{clock:Nat}(h:ml es clock kvs)(i:Nat):ml (es.eraseIdxIfInBounds i) clock (kvs.eraseIdx i):=by
 obtain⟨h1,⟨h2,h3,h4⟩,h5⟩:=h;have ht:(es.eraseIdxIfInBounds i).toList=es.toList.eraseIdx i:=by simp[Array.toList_eraseIdxIfInBounds]
 have hm:∀ {β:Type} (f:MapEntry→β),(es.toList.eraseIdx i).map f=(es.toList.map f).eraseIdx i:=λf=>yT f _ i;refine⟨by rw[ht,hm,h1,yT],⟨λx hx=>h2 x (List.mem_of_mem_eraseIdx (ht ▸ hx)),?_,?_⟩,λp hp=>h5 p (List.mem_of_mem_eraseIdx hp)⟩
 ·rw[ht,hm];exact h3.sublist (List.eraseIdx_sublist _ _)
 ·rw[ht,hm];exact h4.sublist (List.eraseIdx_sublist _ _)
end
section
variable {P:Program}{ops:Array Oper}{Q:Exit→Act→World→Prop}{a:Act}{w w' W:World}{K:Act→World→Prop}{n d:Nat}{l:List (Nat×Value)}{v:Value}{L R:List SP}{kvs:List (Int×Value)}
class tz (L:List SP)(b:Nat)(kvs:outParam (List (Int×Value)))(R:outParam (List SP)):Prop where perm:L.Perm (mp b kvs::R)
instance tz.head {L b kvs}:tz (mp b kvs::L) b kvs L:=⟨lL _⟩
instance (priority:=low) tz.tail {A L b kvs R}[h:tz L b kvs R]:tz (A::L) b kvs (A::R):=⟨(kE A h.perm).trans (c1 _ _ _)⟩
theorem KG {b:Nat}{es KH:Array MapEntry}{c c':Nat}(h:w.heap[b]?=some (.map es c)):(setObj b (.map KH c')).run P w=.ok () (ChangeMaps.setBlock w b (.map KH c')):=by
 simp only[setObj,Sem.run,h];rfl
theorem V9 {kt:TypeId}{em:Bool}{k:Int}(hk:P.underlying kt=some (.int .i64))(n:Nat):(Instr.checkKey em (n+1) kt (.int .i64 k)).run P w=.ok () w:=by
 simp only[Instr.checkKey,Sem.run_bind,eT hk,Result.andThen_ok];rfl
theorem E9 {kt:TypeId}{em:Bool}{k:Int}(hk:P.underlying kt=some (.int .i64)):(Instr.checkKey em 10000 kt (.int .i64 k)).run P w=.ok () w :=
 V9 hk 9999
theorem Fa {es:Array MapEntry}{clock:Nat}{kt:TypeId}{k:Int}(hk:P.underlying kt=some (.int .i64))(h:ml es clock kvs):(Instr.findKey kt (.int .i64 k) es.toList).run P w=.ok (nx kvs k 0) w:=by
 simp[Instr.findKey,eT hk,KF k es.toList kvs 0 h.1]
theorem Wa {t ty ps af g}(E:Fr a n l)(hw:Region.wanted ⟨some d,.makeMap t none,ty,ps,af,g⟩ (yielded ops a.tmps)=true)(I:U W w L)(hf:okB d n l=true)
   (h:∀ b a' w',Fr a' n ((d,.map (some b))::l)→U W w' (mp b []::L)→Old w w'→K a' w'):cK P ops Q ⟨some d,.makeMap t none,ty,ps,af,g⟩ K a w:=by
 refine bA (v:=.map (some w.heap.size)) (w':=w.alloc (.map #[] 0)) E hw ?_ hf (λa' di=>h _ _ _ di (U.E8 (I.alloc (.map #[] 0)) ml.nil) (Old.alloc _ _));simp[execOp,Instr.makeMap,newObj,Sem.run]
theorem KI {x y b t kt tA k z sz a1 dst ty ps af g}{R:List SP}(E:Fr a n l)(ht:P.underlying t=some (.map kt tA))(hk:P.underlying kt=some (.int .i64))(hi:TI P tA z sz a1)(I:U W w L)
   [ev:Ev l x (.map (some b))] [ha:Ev l y (.int .i64 k)] [pk:tz L b kvs R] (hv:((nx kvs k 0).map (·.2)).getD z=v) :
   (execOp a.eval ⟨dst,.lookup t x y false,ty,ps,af,g⟩).run P w=.ok (.value v) w:=by
 obtain⟨es,clock,h1,h2⟩:=(I.perm pk.perm).Bq;have hg:=MapKept.run_getObj_map (P:=P) h2.has.2;have h3:(Instr.lookup t (.map (some b)) (.int .i64 k) false).run P w=.ok v w:=by
  simp only[Instr.lookup,Sem.run_bind,eT ht,Result.andThen_ok,hg];simp only[Sem.run_pure,Result.andThen_ok,E9 hk,Fa hk h1];cases hf:nx kvs k 0 with
  | none=>rw[hf]at hv;simp at hv;simp[uR hi,hv]
  | some p=>rw[hf]at hv;simp at hv;simp[hv]
 simp[execOp,ev.ev a n E,ha.ev a n E,h3]
theorem Wb {x y u b t kt tA k ty ps af g}{R:List SP}(E:Fr a n l)(hw:Region.wanted ⟨none,.mapUpdate t x y u,ty,ps,af,g⟩ (yielded ops a.tmps)=true)(I:U W w L)
   (ht:P.underlying t=some (.map kt tA)) (hk:P.underlying kt=some (.int .i64)) [ev:Ev l x (.map (some b))] [ha:Ev l y (.int .i64 k)] [uT:Ev l u v] [pk:tz L b kvs R]
   (Bs:(Lit.int .i64 k).wf=true) (hn:∀ p∈kvs,p.1≠k)
   (h:∀ a' w',Fr a' n l→U W w' (mp b (kvs++[(k,v)])::R)→K a' w'):cK P ops Q ⟨none,.mapUpdate t x y u,ty,ps,af,g⟩ K a w:=by
 obtain⟨es,clock,h1,h2⟩:=(I.perm pk.perm).Bq;have hg:=MapKept.run_getObj_map (P:=P) h2.has.2;have hb:b<w.heap.size:=(rG.1 h2.has.2).1;have h3:(Instr.mapUpdate t (.map (some b)) (.int .i64 k) v).run P w=.ok () (ChangeMaps.setBlock w b (.map (es.push ⟨.int .i64 k,v,clock⟩) (clock+1))):=by
  simp only[Instr.mapUpdate,Sem.run_bind,eT ht,Result.andThen_ok,hg];simp only[Sem.run_pure,Result.andThen_ok,E9 hk,Fa hk h1,KE hn];simp[KG h2.has.2]
 have h4:=h2.cn (o':=.map (es.push ⟨.int .i64 k,v,clock⟩) (clock+1)) (w':=ChangeMaps.setBlock w b (.map (es.push ⟨.int .i64 k,v,clock⟩) (clock+1))) rfl rfl rfl rfl;refine Ef (w':=ChangeMaps.setBlock w b (.map (es.push ⟨.int .i64 k,v,clock⟩) (clock+1))) E hw ?_ (λa' di=>h a' _ di (h4.E8 (h1.push Bs hn)));simp[execOp,ev.ev a n E,ha.ev a n E,uT.ev a n E,h3]
theorem We {x y b t kt tA k i ty ps af g}{R:List SP}(E:Fr a n l)(hw:Region.wanted ⟨none,.call ⟨.builtin .delete,#[x,y],#[t,kt]⟩,ty,ps,af,g⟩ (yielded ops a.tmps)=true)(I:U W w L)
   (ht:P.underlying t=some (.map kt tA)) (hk:P.underlying kt=some (.int .i64)) [ev:Ev l x (.map (some b))] [ha:Ev l y (.int .i64 k)] [pk:tz L b kvs R] (hi:nx kvs k 0=some (i,v))
   (h:∀ a' w',Fr a' n l→U W w' (mp b (kvs.eraseIdx i)::R)→K a' w'):cK P ops Q ⟨none,.call ⟨.builtin .delete,#[x,y],#[t,kt]⟩,ty,ps,af,g⟩ K a w:=by
 obtain⟨es,clock,h1,h2⟩:=(I.perm pk.perm).Bq;have hg:=MapKept.run_getObj_map (P:=P) h2.has.2;have hb:b<w.heap.size:=(rG.1 h2.has.2).1;have h3:(Builtin.delete_ #[t,kt] ty #[.map (some b),.int .i64 k]).run P w=.ok (.tuple #[]) (ChangeMaps.setBlock w b (.map (es.eraseIdxIfInBounds i) clock)):=by
  simp only[Builtin.delete_,getElem?_toArray,List.getElem?_cons_zero,getElem?_cons_succ];simp only[Sem.run_bind,eT ht,Result.andThen_ok,hg];simp only[Sem.run_pure,Result.andThen_ok,E9 hk,Fa hk h1,hi];simp[KG h2.has.2]
 have h4:=h2.cn (o':=.map (es.eraseIdxIfInBounds i) clock) (w':=ChangeMaps.setBlock w b (.map (es.eraseIdxIfInBounds i) clock)) rfl rfl rfl rfl;refine Ee (v:=.tuple #[]) (w':=ChangeMaps.setBlock w b (.map (es.eraseIdxIfInBounds i) clock)) E hw ?_ (λa' di=>h a' _ di (h4.E8 (h1.erase i)));simp[execOp,resolve,ev.ev a n E,ha.ev a n E,invoke,builtin,h3]
end
end
section
open Go.RowKit Go.Maps Go.Sort Go.Shelf
def Lay.KJ:Go.Shelf.Ren:=⟨fun | 7=>119 | 10=>164 | n=>n,fun | 23=>218 | 26=>166 | 3=>219 | 28=>216 | 0=>0 | 27=>215 | 33=>284 | 4=>4 | n=>n,fun | n=>n⟩
theorem Lay.KK:Go.Proofs.SlLaysZI.n7 prog Lay.KJ:={
 mixed:=by kernel_rfl
 f7:=⟨f119.name,by decide,func119.trans (dJ some (by kernel_rfl))⟩
 f10:=⟨f164.name,by decide,func164.trans (dJ some (by kernel_rfl))⟩
 t0:=Fb
 a0:=isAgg0
 z0:=sizeOf0
 v0:=zeroValue0
 t4:=wU
 a4:=isAgg4
 z4:=sizeOf4
 v4:=zeroValue4
 t23:=wX
 a23:=isAgg218
 z23:=sizeOf218
 v23:=zeroValue218
 t26:=qQ
 a26:=isAgg166
 z26:=sizeOf166
 v26:=zeroValue166
 t27:=underlying215
 a27:=isAgg215
 z27:=sizeOf215
 v27:=zeroValue215
 t28:=underlying216
 a28:=isAgg216
 z28:=sizeOf216
 v28:=zeroValue216
 t33:=underlying284
 a33:=isAgg284
 z33:=sizeOf284
 v33:=zeroValue284 }
def Lay.KL:Go.Shelf.Ren:=⟨fun | 6=>118 | 8=>162 | 9=>163 | 11=>194 | 13=>196 | 12=>195 | 23=>226 | 24=>227 | 14=>217 | 15=>218 | 16=>219 | 17=>220 | 18=>221 | 19=>222 | 20=>223 | 21=>224 | 22=>225 | 25=>233 | 26=>234 | 27=>235 | 28=>236 | 29=>237 | 30=>238 | 31=>243 | n=>n,fun | 26=>166 | 28=>216 | 24=>160 | 0=>0 | 3=>3 | 37=>314 | 48=>100 | 50=>319 | 4=>4 | 40=>352 | 39=>351 | 45=>248 | 5=>5 | 9=>9 | 51=>366 | 55=>370 | 57=>375 | 58=>376 | 33=>284 | n=>n,fun | n=>n⟩
theorem Lay.Wf:Go.Proofs.SlLaysZI.n6 prog Lay.KL:={
 mixed:=by kernel_rfl
 f6:=⟨f118.name,by decide,func118.trans (dJ some (by kernel_rfl))⟩
 f8:=⟨f162.name,by decide,func162.trans (dJ some (by kernel_rfl))⟩
 f11:=⟨f194.name,by decide,func194.trans (dJ some (by kernel_rfl))⟩
 t0:=Fb
 a0:=isAgg0
 z0:=sizeOf0
 v0:=zeroValue0
 t24:=Bj
 a24:=isAgg160
 z24:=sizeOf160
 v24:=zeroValue160
 t26:=qQ
 a26:=isAgg166
 z26:=sizeOf166
 v26:=zeroValue166
 t28:=underlying216
 a28:=isAgg216
 z28:=sizeOf216
 v28:=zeroValue216
 i26:=by kernel_rfl }
def Lay.Wg:Go.Shelf.Ren:=⟨fun | 5=>163 | 8=>196 | 7=>195 | 19=>226 | 20=>227 | 10=>217 | 11=>218 | 12=>219 | 13=>220 | 14=>221 | 15=>222 | 16=>223 | 17=>224 | 18=>225 | 30=>233 | 31=>234 | 32=>235 | 33=>236 | 34=>237 | 35=>238 | 40=>243 | n=>n,fun | 23=>160 | 25=>166 | 3=>3 | 32=>314 | 22=>160 | 0=>0 | 44=>100 | 46=>319 | 4=>4 | 36=>352 | 35=>351 | 41=>248 | 5=>5 | 9=>9 | 53=>366 | 57=>370 | 63=>375 | 64=>376 | n=>n,fun | n=>n⟩
theorem Lay.KM:Go.Proofs.SlLaysM.n5 prog Lay.Wg:={
 mixed:=by kernel_rfl
 f5:=⟨f163.name,by decide,func163.trans (dJ some (by kernel_rfl))⟩
 f7:=⟨f195.name,by decide,func195.trans (dJ some (by kernel_rfl))⟩
 f8:=func196.trans (dJ some (by kernel_rfl))
 f10:=⟨f217.name,by decide,func217.trans (dJ some (by kernel_rfl))⟩
 f11:=⟨f218.name,by decide,func218.trans (dJ some (by kernel_rfl))⟩
 f12:=⟨f219.name,by decide,func219.trans (dJ some (by kernel_rfl))⟩
 f13:=⟨f220.name,by decide,func220.trans (dJ some (by kernel_rfl))⟩
 f14:=⟨f221.name,by decide,func221.trans (dJ some (by kernel_rfl))⟩
 f15:=⟨f222.name,by decide,func222.trans (dJ some (by kernel_rfl))⟩
 f16:=⟨f223.name,by decide,func223.trans (dJ some (by kernel_rfl))⟩
 f17:=⟨f224.name,by decide,func224.trans (dJ some (by kernel_rfl))⟩
 f18:=⟨f225.name,by decide,func225.trans (dJ some (by kernel_rfl))⟩
 f19:=func226.trans (dJ some (by kernel_rfl))
 f20:=func227.trans (dJ some (by kernel_rfl))
 f30:=⟨f233.name,by decide,func233.trans (dJ some (by kernel_rfl))⟩
 f31:=func234.trans (dJ some (by kernel_rfl))
 f32:=func235.trans (dJ some (by kernel_rfl))
 f33:=⟨f236.name,by decide,func236.trans (dJ some (by kernel_rfl))⟩
 f34:=⟨f237.name,by decide,func237.trans (dJ some (by kernel_rfl))⟩
 f35:=⟨f238.name,by decide,func238.trans (dJ some (by kernel_rfl))⟩
 f40:=⟨f243.name,by decide,func243.trans (dJ some (by kernel_rfl))⟩
 t0:=Fb
 a0:=isAgg0
 z0:=sizeOf0
 v0:=zeroValue0
 t3:=fk
 a3:=isAgg3
 z3:=sizeOf3
 v3:=zeroValue3
 t4:=wU
 a4:=isAgg4
 z4:=sizeOf4
 v4:=zeroValue4
 t5:=dF
 a5:=isAgg5
 z5:=sizeOf5
 v5:=zeroValue5
 t9:=gB
 a9:=isAgg9
 z9:=sizeOf9
 v9:=zeroValue9
 t22:=Bj
 a22:=isAgg160
 z22:=sizeOf160
 v22:=zeroValue160
 t23:=Bj
 a23:=isAgg160
 z23:=sizeOf160
 v23:=zeroValue160
 t25:=qQ
 a25:=isAgg166
 z25:=sizeOf166
 v25:=zeroValue166
 t32:=underlying314
 a32:=isAgg314
 z32:=sizeOf314
 v32:=zeroValue314
 t35:=underlying351
 a35:=isAgg351
 z35:=sizeOf351
 v35:=zeroValue351
 t36:=underlying352
 a36:=isAgg352
 z36:=sizeOf352
 v36:=zeroValue352
 t41:=underlying248
 a41:=isAgg248
 z41:=sizeOf248
 v41:=zeroValue248
 t44:=lh
 a44:=isAgg100
 z44:=sizeOf100
 v44:=zeroValue100
 t46:=tr
 a46:=isAgg319
 z46:=sizeOf319
 v46:=zeroValue319
 t53:=underlying366
 a53:=isAgg366
 z53:=sizeOf366
 v53:=zeroValue366
 t57:=underlying370
 a57:=isAgg370
 z57:=sizeOf370
 v57:=zeroValue370
 t63:=underlying375
 a63:=isAgg375
 z63:=sizeOf375
 v63:=zeroValue375
 t64:=underlying376
 a64:=isAgg376
 z64:=sizeOf376
 v64:=zeroValue376 }
theorem Lay.Wh (m:Nat):AnyZI.SortsIn prog Lay.KL Fence.wide m :=
 ⟨λaa off cap ss W hH Wi aF=>callsIn_wide.2 (AnyM.slices_Sort_int Lay.KM aa off cap ss W hH Wi aF),
  λp cap W=>callsIn_wide.2 (AnyM.slices_Sort_int_none Lay.KM p cap W)⟩
def n3:Value→Option (DataW Unit×List MemPlace):=λ_=>some (.lit (.bool true),[])
theorem Wj {es:Array MapEntry}{clock:Nat}{kvs:List (Int×Value)}(h:ml es clock kvs)(hl:kvs.length≤maxLen):WideElems.Fit prog 166 n3 es clock:=by
 obtain⟨h1,h2,h3⟩:=h;have hlen:es.size=kvs.length:=by have:=dJ List.length h1;simpa using this
 refine⟨by omega,h2,λx hx=>?_⟩;have hm:(x.key,x.val)∈es.toList.map (λe=>(e.key,e.val)):=cX.2 ⟨x,hx,rfl⟩;rw[h1]at hm;obtain⟨p,hp,pV⟩:=cX.1 hm;simp only[Prod.mk.injEq]at pV;refine⟨(.int .i64 p.1,.lit (.bool true)),?_⟩;simp[WideElems.rd,← pV.1,keyOf_int_mk qQ (h3 p hp),n3]
theorem mapKeys {es:Array MapEntry}{clock:Nat}{kvs:List (Int×Value)}(h:ml es clock kvs):(intKeys (DataW.map ((es.toList.map (WideElems.rg prog 166 n3)).foldr DataW.insert []))).Perm (kvs.map (·.1)):=by
 have hp:=WideShapes.sorted_perm (es.toList.map (WideElems.rg prog 166 n3));have h4:(es.toList.map (WideElems.rg prog 166 n3)).map (λp=>Go.intOf p.1)=kvs.map (·.1):=by
  obtain⟨h1,_,h3⟩:=h
  have : ∀ (l : List MapEntry) (m : List (Int × Value)), l.map (fun e => (e.key, e.val)) = m.map (fun p => (Value.int .i64 p.1, p.2)) → (∀ p ∈ m, (Lit.int .i64 p.1).wf = true) →
      (l.map (WideElems.rg prog 166 n3)).map (λp=>Go.intOf p.1)=m.map (·.1):=by
   intro l
   induction l with
   | nil=>intro m h _;cases m with
    | nil=>rfl
    | cons=>simp at h
   | cons e l ih =>
    intro m h hw;cases m with
    | nil=>simp at h
    | cons p m =>
     simp only[map_cons,List.cons.injEq,Prod.mk.injEq]at h;simp only[map_cons,ih m h.2 (λq hq=>hw q (gx _ hq))];have hr:WideElems.rg prog 166 n3 e=(Lit.int .i64 p.1,(DataW.lit (.bool true):DataW Unit)):=by
      simp only[WideElems.rg,WideElems.rd,h.1.1,keyOf_int_mk qQ (hw p iq),n3,Option.bind_some,Option.map_some,Option.getD_some]
     rw[hr];rfl
  exact this _ _ h1 h3
 have:=hp.map (λp:Lit×DataW Unit=>Go.intOf p.1);rw[h4]at this;exact this
section
variable {W w:World}{L:List SP}{m:Nat}{kvs:List (Int×Value)}
theorem Wl (I:U W w L):Calls prog 119 #[.map (some m)] w λe w' =>
   ∃ b,e=.returned (.func (.func 164) #[] #[pt b])∧U W w' (aa b 218 [.map (some m)]::L):=by
 have h:=AnyZI.keys_in Lay.KK Fence.wide 5 trivial rfl (some m) w;refine (callsIn_wide.1 h).mono λe w' ⟨h1,h2⟩=>?_;subst h2;exact⟨_,h1,I.alloc _⟩
theorem Wm {ss ks:List Int}(hp:ss.Perm ks)(hk:ks.Pairwise (· < ·)):ss.mergeSort (λx y=>decide (x≤y))=ks:=by
 have h1:=List.pairwise_mergeSort (le:=λx y:Int=>decide (x≤y)) (λa b c h1 h2=>by simp at *;omega) (λa b=>by simp;omega) ss;refine List.Perm.eq_of_pairwise (le:=λx y:Int=>decide (x≤y)=true) (λa b _ _ h1 h2=>by simp at *;omega) h1 (hk.imp λh=>by simp;omega) ((List.mergeSort_perm _ _).trans hp)
theorem U.ownsRow {w':World}{e sz:Nat}{v:Value}{n:Nat}{xs:List Value}(I:U W w L)(hb:Below w.heap.size w w')(hr:w'.ownsRow w.heap.size e sz v n xs) :
   ∃ ad c,v=.slice ad n c∧U W w' (Sl e sz ad n c xs::L):=by
 obtain⟨Bt,h,p,q⟩:=I;have hB:Below W.heap.size W w':=Bt.trans ⟨hb.os,hb.tape,hb.output,hb.size,λk hk=>hb.block k (yA hk Bt.size)⟩;have KN:∀ n o,h n=some o→W.heap.size≤n∧w'.heap[n]?=some o:=λn o ho=>by
  obtain⟨h1,h2⟩:=p n o ho;refine⟨h1,?_⟩;rw[hb.block n (rG.1 h2).1];exact h2
 have g9:U W w' L:=⟨hB,h,KN,q⟩;obtain⟨hl,hr⟩:=hr;rcases hr with ⟨rfl,hn⟩ | ⟨g,cap,cur,rfl,hg,hc,Fc,_,aF,ht⟩
 ·subst hn;refine⟨none,0,rfl,?_⟩;obtain rfl:xs=[]:=hs (by rw[hl,Nat.zero_mul]);exact g9.bQ _ _ _
 ·have Bu : h g = none := by
   cases he:h g with
   | none=>rfl
   | some x =>
    have:=(rG.1 (p g x he).2).1;omega
  refine⟨some ⟨g,0,none⟩,cap,rfl,?_⟩;have h2:U W w' (aa g e ([]++xs++cur.toList.drop (n*sz))::L):=by
   refine⟨hB,λk=>if k=g then some (.cells cur e (0,0)) else h k,λk o ho=>?_,λk=>if k=g then some (.cells cur e (0,0)) else none,h,λk=>?_,λk o ho=>?_,λk o ho=>?_,?_,q⟩
   ·by_cases hk:k=g
    ·simp[hk]at ho;subst ho;subst hk;exact⟨eS Bt.size hg,hc⟩
    ·simp[hk]at ho;exact KN k o ho
   ·by_cases hk:k=g
    ·right;rw[hk];exact Bu
    ·left;simp[hk]
   ·by_cases hk:k=g <;> simp[hk]at ho ⊢;exact ho
   ·by_cases hk:k=g
    ·rw[hk,Bu]at ho;cases ho
    ·simp[hk,ho]
   ·have : ([] ++ xs ++ cur.toList.drop (n * sz)).toArray = cur := by
     rw[← ht];simp
    simp only[aa,k5,this,if_true]
  have hlen:xs.length+(cur.toList.drop (n*sz)).length=cap*sz:=by
   have:(cur.toList).length=cap*sz:=by simpa using aF
   rw[c8,this,hl];have:=oJ sz Fc;omega
  have h3:=U.jh (pre:=[]) (cs:=xs) (n:=n) (c:=cap) (sz:=sz) h2 hl Fc (by rw[Nat.sub_mul];omega);simpa using h3
theorem Wn {b:Nat}(I:U W w (aa b 218 [.map (some m)]::mp m kvs::L))(hk:(kvs.map (·.1)).Pairwise (· < ·))(hl:kvs.length≤1099511627776) :
   Calls prog 118 #[.func (.func 164) #[] #[pt b]] w λe w' =>
   ∃ ad c,e=.returned (.slice ad kvs.length c)∧U W w' (Sl 166 1 ad kvs.length c (kvs.map λp=>.int .i64 p.1)::mp m kvs::L):=by
 have dB:=I.tail;obtain⟨es,clock,hm,u7⟩:=dB.Bq;have Wo:(1099511627776:Nat)≤maxLen:=by unfold maxLen;omega
 have aF:es.size=kvs.length:=by have:=dJ List.length hm.1;simpa using this
 have hF:=Wj hm (eS hl Wo);have Bv:w.ownsMap prog 166 n3 m es.size (.map ((es.toList.map (WideElems.rg prog 166 n3)).foldr DataW.insert [])):=⟨es,clock,u7.has.2,hF,a7 _,rfl⟩;have hD:Maps.size (DataW.map ((es.toList.map (WideElems.rg prog 166 n3)).foldr DataW.insert []))≤kvs.length:=by rw[← aF];exact Bv.size_le
 have lS:w.cell? ⟨b,0,none⟩=some (.map (some m)):=I.cell 0;have hb:b<w.heap.size:=World.block_lt_of_cell? _ _ lS;have Wp:SeqGives Fence.wide 2 prog 164 #[pt b] encZ (λss=>ss.Perm (intKeys (DataW.map ((es.toList.map (WideElems.rg prog 166 n3)).foldr DataW.insert [])))) (Maps.size (DataW.map ((es.toList.map (WideElems.rg prog 166 n3)).foldr DataW.insert []))) w :=
  AnyZI.keys_gives (ρ:=Lay.KJ) { Lay.KK with } Fence.wide _ trivial rfl (by omega) b m _ _ w hb lS Bv
 have w1:=AnyZI.sorted_in Lay.Wf Fence.wide 5 trivial trivial trivial trivial rfl (by omega) (Lay.Wh _) (enters_of func163 (by kernel_rfl) rfl)
  164 #[pt b] trivial
  (enters_of func164 (by kernel_rfl) rfl) _ _ (by omega) (by omega) _ Wp
 refine (callsIn_wide.1 w1).mono λe w' ⟨v,ss,h1,h2,h3,_,h5⟩=>?_;subst h1;have hp:=h2.trans (mapKeys hm);rw[Wm hp hk]at h3;have hlen:ss.length=kvs.length:=by have:=hp.length_eq;simpa using this
 rw[hlen]at h3;obtain⟨ad,c,rfl,h6⟩:=dB.ownsRow h5 h3;refine⟨ad,c,rfl,?_⟩;have h7:(kvs.map (·.1)).map encZ=kvs.map λp=>Value.int .i64 p.1:=by simp[encZ,Function.comp_def]
 rw[h7]at h6;exact h6
end
end
section
structure aC where
 id:Nat
 refs:Nat
 g:Nat→Int
 p:Nat→Nat
structure Sn where
 last:Nat
 room:Nat
 n:Nat
 ar:List aC
def aC.cells (x:aC):List Value:=ints .i64 4 (λk=>(x.p k:Int)+1)++[.int .i64 x.refs]
theorem aC.len (x:aC):x.cells.length=5:=by simp[aC.cells,dk]
instance {x:aC}:mO x.cells 5:=⟨x.len⟩
theorem aC.at {x:aC}{k:Nat}(h:k<4):x.cells[k]?=some (.int .i64 ((x.p k:Int)+1)):=by
 rw[aC.cells,mM (by rw[dk];exact h),ga _ h]
theorem aC.ref {x:aC}:x.cells[4]?=some (.int .i64 x.refs):=by simp[aC.cells,dk]
theorem aC.Fe {x:aC}{r:Nat}:x.cells.set 4 (.int .i64 r)=aC.cells { x with refs:=r }:=by
 rw[aC.cells,wH _ _ (by rw[dk];exact a7 _),dk];rfl
theorem aC.Wq {x:aC}{k f:Nat}(h:k<4)(g:Nat→Int):x.cells.set k (.int .i64 ((f:Int)+1))=aC.cells { x with p:=λj=>if j=k then f else x.p j,g:=g }:=by
 rw[aC.cells,uW _ _ (by rw[dk];exact h),ints_set,aC.cells]
 congr 1
 refine yI λj _=>?_;by_cases hj:j=k <;> simp[hj]
def jk (x:aC)(p m:Nat):Nat:=(List.range m).countP λk=>decide (x.p k=p)
def ic (x:aC)(p:Nat):Nat:=jk x p 4
def cS (l:List aC)(p:Nat):Nat:=(l.map λx=>ic x p).sum
def Sn.used (A:Sn):Nat:=(List.range A.room).countP λp=>decide (0<cS A.ar p)
theorem Bw (x:aC)(p:Nat):jk x p 0=0:=rfl
theorem lk (x:aC)(p m:Nat):jk x p (m+1)=jk x p m+if x.p m=p then 1 else 0:=by
 rw[jk,range_succ,List.countP_append,List.countP_singleton,jk];by_cases h:x.p m=p <;> simp[h]
theorem u9 (x:aC)(p:Nat):ic x p=(if x.p 0=p then 1 else 0)+(if x.p 1=p then 1 else 0)+(if x.p 2=p then 1 else 0)+(if x.p 3=p then 1 else 0):=by
 rw[ic,lk,lk,lk,lk,Bw,ei]
theorem tB (x:aC)(p:Nat){m n:Nat}(h:m≤n):jk x p m≤jk x p n:=by
 induction n with
 | zero => obtain rfl : m = 0 := by omega
           exact a7 _
 | succ n ih =>
  rcases gX n m with h1 | h1
  ·obtain rfl:m=n+1:=by omega
   exact a7 _
  ·have:=ih h1;rw[lk];omega
theorem KO (x:aC)(p:Nat):ic x p≤4:=by have:=List.countP_le_length (p:=λk=>decide (x.p k=p)) (l:=List.range 4);simpa [ic,jk] using this
theorem tC {x:aC}{k:Nat}(h:k<4):0<ic x (x.p k):=by
 have h1:=tB x (x.p k) (m:=k+1) (n:=4) (by omega);rw[lk,aj rfl]at h1;show 0<jk x (x.p k) 4;omega
theorem Wr {x:aC}{k k':Nat}(h:k<4)(h':k'<4)(hn:k≠k')(he:x.p k=x.p k'):2≤ic x (x.p k):=by
 rcases Nat.lt_or_gt_of_ne hn with hl | hl
 ·have h1:=tB x (x.p k) (m:=k'+1) (n:=4) (by omega);have h2:=tB x (x.p k) (m:=k+1) (n:=k') (by omega);rw[lk,aj he.symm]at h1;rw[lk,aj rfl]at h2;show 2≤jk x (x.p k) 4;omega
 ·have h1:=tB x (x.p k) (m:=k+1) (n:=4) (by omega);have h2:=tB x (x.p k) (m:=k'+1) (n:=k) (by omega);rw[lk,aj rfl]at h1;rw[lk,aj he.symm]at h2;show 2≤jk x (x.p k) 4;omega
theorem Ff {x:aC}{p:Nat}(h:∀ k,k<4→x.p k≠p):ic x p=0:=by
 rw[u9,ag (h 0 (by omega)),ag (h 1 (by omega)),ag (h 2 (by omega)),ag (h 3 (by omega))]
theorem KP {x:aC}{p:Nat}:0<ic x p ↔ ∃ k,k<4∧x.p k=p:=by
 constructor
 ·intro h;by_cases h0:∃ k,k<4∧x.p k=p
  ·exact h0
  ·rw[Ff λk hk e=>h0 ⟨k,hk,e⟩]at h;omega
 ·rintro⟨k,hk,rfl⟩;exact tC hk
theorem KQ {x y:aC}(h:∀ k,k<4→x.p k=y.p k)(p:Nat):ic x p=ic y p:=by
 rw[u9,u9,h 0 (by omega),h 1 (by omega),h 2 (by omega),h 3 (by omega)]
theorem Fg (p:Nat):cS [] p=0:=rfl
theorem tD (x:aC)(l:List aC)(p:Nat):cS (x::l) p=ic x p+cS l p:=by simp[cS]
theorem yU (l m:List aC)(p:Nat):cS (l++m) p=cS l p+cS m p:=by simp[cS]
theorem yV {l:List aC}{i:Nat}(h:i<l.length)(p:Nat):cS l p=ic l[i] p+cS (l.eraseIdx i) p:=by
 have h0:l=l.take i++l[i]::l.drop (i+1):=by rw[← kL h,j6]
 rw[th,yU]
 conv=>lhs;rw[h0,yU,tD]
 omega
theorem Fh {l:List aC}{i:Nat}(h:i<l.length)(x:aC)(p:Nat):cS (l.set i x) p+ic l[i] p=cS l p+ic x p:=by
 have h1:=yV h p;have h2:=yV (l:=l.set i x) (i:=i) (by simpa using h) p;rw[oP,eraseIdx_set_eq]at h2;omega
theorem va {l:List aC}{x:aC}(h:x∈l)(p:Nat):ic x p≤cS l p:=by
 obtain⟨i,hi,rfl⟩:=List.mem_iff_getElem.1 h;have:=yV hi p;omega
theorem Fi (l:List aC)(p:Nat):cS l p≤4*l.length:=by
 induction l with
 | nil=>simp[cS]
 | cons x l ih=>rw[tD,eV];have:=KO x p;omega
structure Rel (A:Sn)(ps:List Pg):Prop where
 len:ps.length=A.room
 refs:∀ p q,ps[p]?=some q→q.refs=cS A.ar p
 pW:∀ x∈A.ar,∀ k,k<4→∃ q,ps[x.p k]?=some q∧∀ j,j<8→q.g j=x.g (8*k+j)
structure WF (A:Sn):Prop where
 room:A.room≤200
 bound:A.n<1099511627776
 last:A.last≤A.n
 many:A.ar.length≤A.n
 sorted:(A.ar.map (·.id)).Pairwise (· < ·)
 mS:∀ x∈A.ar,1≤x.id∧x.id≤A.last∧1≤x.refs∧x.refs≤A.n
theorem Rel.ok {A:Sn}{ps:List Pg}(h:Rel A ps)(hw:WF A):ps.length≤200∧∀ p∈ps,p.refs<4611686018427387904:=by
 refine⟨h.len ▸ hw.room,λq hq=>?_⟩;obtain⟨i,hi,rfl⟩:=List.mem_iff_getElem.1 hq;rw[h.refs i _ (aD hi)];have:=Fi A.ar i;have:=hw.many;have:=hw.bound;omega
theorem Rel.used {A:Sn}{ps:List Pg}(h:Rel A ps):kb ps=A.used:=by
 have e:ps=(List.range ps.length).map (λi=>ps.getD i tu):=by
  apply ext_getElem (by simp);intro i h1 h2;simp[br,aD h1]
 rw[kb,Sn.used,← h.len]
 conv=>lhs;rw[e]
 rw[List.countP_map];refine countP_congr λi hi=>?_;have dI:i<ps.length:=mem_range.1 hi;have:=h.refs i _ (aD dI);simp only[Function.comp,br,aD dI,Option.getD_some,this]
theorem Rel.live {A:Sn}{ps:List Pg}(h:Rel A ps){x:aC}(hx:x∈A.ar){k:Nat}(hk:k<4):∃ h:x.p k<ps.length,0<ps[x.p k].refs∧∀ j,j<8→ps[x.p k].g j=x.g (8*k+j):=by
 obtain⟨q,h1,h2⟩:=h.pW x hx k hk;obtain⟨h3,h4⟩:=a2.1 h1;refine⟨h3,?_,λj hj=>by rw[h4];exact h2 j hj⟩;rw[h.refs _ _ (aD h3)];have:=va hx (x.p k);have:=tC (x:=x) hk;omega
def ie (ps:List Pg)(x:aC)(m:Nat):List Pg:=ps.mapIdx λp q=>⟨q.g,q.refs+jk x p m⟩
def jE (ps:List Pg)(x:aC)(m:Nat):List Pg:=ps.mapIdx λp q=>⟨q.g,q.refs-jk x p m⟩
theorem Ws (ps:List Pg)(x:aC):ie ps x 0=ps:=by
 apply ext_getElem (by simp[ie]);intro i h1 h2;simp[ie,Bw]
theorem Wt (ps:List Pg)(x:aC):jE ps x 0=ps:=by
 apply ext_getElem (by simp[jE]);intro i h1 h2;simp[jE,Bw]
theorem yW (ps:List Pg)(x:aC)(m:Nat):(ie ps x m).length=ps.length:=by simp[ie]
theorem By (ps:List Pg)(x:aC)(m:Nat):(jE ps x m).length=ps.length:=by simp[jE]
theorem yX {ps:List Pg}{x:aC}{m p:Nat}(h:p<(ie ps x m).length):(ie ps x m)[p]=⟨(ps[p]'(by rw[yW]at h;exact h)).g,(ps[p]'(by rw[yW]at h;exact h)).refs+jk x p m⟩:=by simp[ie]
theorem Bz {ps:List Pg}{x:aC}{m p:Nat}(h:p<(jE ps x m).length):(jE ps x m)[p]=⟨(ps[p]'(by rw[By]at h;exact h)).g,(ps[p]'(by rw[By]at h;exact h)).refs-jk x p m⟩:=by simp[jE]
theorem Wu {ps:List Pg}{x:aC}{m:Nat}(h:x.p m<(ie ps x m).length):(ie ps x m).set (x.p m) ⟨(ie ps x m)[x.p m].g,(ie ps x m)[x.p m].refs+1⟩=ie ps x (m+1):=by
 apply ext_getElem (by simp[ie]);intro i h1 h2;rw[List.getElem_set,yX h2];by_cases hi:x.p m=i
 ·subst hi;rw[aj rfl,yX h,lk,aj rfl,Nat.add_assoc]
 ·rw[ag hi,yX (by simpa using h1),lk,ag hi];rfl
theorem Wv {ps:List Pg}{x:aC}{m:Nat}(h:x.p m<(jE ps x m).length):(jE ps x m).set (x.p m) ⟨(jE ps x m)[x.p m].g,(jE ps x m)[x.p m].refs-1⟩=jE ps x (m+1):=by
 apply ext_getElem (by simp[jE]);intro i h1 h2;rw[List.getElem_set,Bz h2];by_cases hi:x.p m=i
 ·subst hi;rw[aj rfl,Bz h,lk,aj rfl,Nat.sub_sub]
 ·rw[ag hi,Bz (by simpa using h1),lk,ag hi];rfl
theorem KR (ps:List Pg)(x:aC)(m p:Nat):(ie ps x m)[p]?=ps[p]?.map λq=>⟨q.g,q.refs+jk x p m⟩:=by simp[ie]
theorem KS (ps:List Pg)(x:aC)(m p:Nat):(jE ps x m)[p]?=ps[p]?.map λq=>⟨q.g,q.refs-jk x p m⟩:=by simp[jE]
def Sn.add (A:Sn)(g:Nat→Int)(p:Nat→Nat):Sn:={ A with last:=A.last+1,n:=A.n+1,ar:=A.ar++[⟨A.last+1,1,g,p⟩] }
def Sn.drop (A:Sn)(i:Nat)(x:aC):Sn:={ A with ar:=if x.refs=1 then A.ar.eraseIdx i else A.ar.set i { x with refs:=x.refs-1 } }
def Sn.put (A:Sn)(i:Nat)(x:aC)(c:Nat)(v:Int):Sn:={ A with ar:=A.ar.set i { x with g:=cn x.g c v } }
def Sn.vb (A:Sn)(i:Nat)(x:aC)(c:Nat)(v:Int)(f:Nat):Sn:={ A with ar:=A.ar.set i { x with g:=cn x.g c v,p:=λj=>if j=c/8 then f else x.p j } }
theorem WF.add {A:Sn}(h:WF A)(hn:A.n+1<1099511627776)(g:Nat→Int)(p:Nat→Nat):WF (A.add g p):=by
 obtain⟨h1,h2,h3,h4,h5,h6⟩:=h;refine⟨h1,hn,by simp[Sn.add];omega,by simp[Sn.add];omega,?_,λx hx=>?_⟩
 ·simp only[Sn.add,cY,map_cons,map_nil];refine List.pairwise_append.2 ⟨h5,by simp,λa E b hb=>?_⟩;obtain⟨x,hx,rfl⟩:=cX.1 E;have:=(h6 x hx).2.1;simp at hb;omega
 ·simp only[Sn.add]at hx ⊢;rcases e7.1 hx with hx | hx
  ·have:=h6 x hx;omega
  ·simp at hx;subst hx;simp
theorem KT {l:List aC}{i:Nat}{x y:aC}(h:l[i]?=some x)(he:y.id=x.id):(l.set i y).map (·.id)=l.map (·.id):=by
 obtain⟨hi,rfl⟩:=a2.1 h;rw[jF,he];apply ext_getElem?;intro j;rw[jB];by_cases hj:i=j
 ·subst hj;simp[hi]
 ·rw[ag hj]
theorem WF.set {A:Sn}(h:WF A){n:Nat}(hn:n<1099511627776)(hle:A.n≤n){i:Nat}{x y:aC}(hx:A.ar[i]?=some x)(he:y.id=x.id)(hr:1≤y.refs∧y.refs≤n):WF { A with n:=n,ar:=A.ar.set i y }:=by
 obtain⟨h1,h2,h3,h4,h5,h6⟩:=h;have eJ:=bI hx;refine⟨h1,hn,by simp only;omega,by simp only[bz];omega,by simp only;rw[KT hx he];exact h5,λz hz=>?_⟩;simp only at hz ⊢;rcases r5 hz with hz | rfl
 ·have:=h6 z hz;omega
 ·have:=h6 x eJ;rw[he];omega
theorem WF.erase {A:Sn}(h:WF A)(i:Nat):WF { A with ar:=A.ar.eraseIdx i }:=by
 obtain⟨h1,h2,h3,h4,h5,h6⟩:=h;refine⟨h1,h2,h3,?_,?_,λz hz=>h6 z (List.mem_of_mem_eraseIdx hz)⟩
 ·simp only;exact eS (List.length_eraseIdx_le _ _) h4
 ·simp only;rw[yT];exact h5.sublist (List.eraseIdx_sublist _ _)
theorem WF.ids {A:Sn}(h:WF A){i j:Nat}{x y:aC}(hx:A.ar[i]?=some x)(hy:A.ar[j]?=some y)(he:x.id=y.id):i=j:=by
 obtain⟨hi,rfl⟩:=a2.1 hx;obtain⟨hj,rfl⟩:=a2.1 hy;have hp:=List.pairwise_iff_getElem.1 h.sorted;rcases Nat.lt_trichotomy i j with hl | hl | hl
 ·have:=hp i j (by simpa using hi) (by simpa using hj) hl;simp at this;omega
 ·exact hl
 ·have:=hp j i (by simpa using hj) (by simpa using hi) hl;simp at this;omega
theorem Rel.add {A:Sn}{ps:List Pg}(h:Rel A ps){x:aC}(hx:x∈A.ar):Rel (A.add x.g x.p) (ie ps x 4):=by
 refine⟨by rw[yW];exact h.len,λp q hq=>?_,λy hy k hk=>?_⟩
 ·rw[KR]at hq;obtain⟨tE,h1,rfl⟩:=r0.1 hq;have:=h.refs p tE h1;simp only[Sn.add,yU,tD,Fg,this];rfl
 ·have h0 : ∀ y : aC, (∃ q, ps[y.p k]? = some q ∧ ∀ j, j < 8 → q.g j = y.g (8 * k + j)) → ∃ q, (ie ps x 4)[y.p k]? = some q ∧ ∀ j, j < 8 → q.g j = y.g (8 * k + j) := by
   rintro y ⟨q,h1,h2⟩;exact⟨⟨q.g,q.refs+jk x (y.p k) 4⟩,by rw[KR,h1];rfl,h2⟩
  simp only[Sn.add]at hy;rcases e7.1 hy with hy | hy
  ·exact h0 y (h.pW y hy k hk)
  ·simp at hy;subst hy;exact h0 ⟨A.last+1,1,x.g,x.p⟩ (h.pW x hx k hk)
theorem Rel.Ww {A:Sn}{ps:List Pg}(h:Rel A ps){n i:Nat}{x:aC}{r:Nat}(hx:A.ar[i]?=some x):Rel { A with n:=n,ar:=A.ar.set i { x with refs:=r } } ps:=by
 obtain⟨hi,rfl⟩:=a2.1 hx;refine⟨h.len,λp q hq=>?_,λy hy k hk=>?_⟩
 ·have:=Fh hi { A.ar[i] with refs:=r } p;have h2:ic { A.ar[i] with refs:=r } p=ic A.ar[i] p:=KQ (λ_ _=>rfl) p;rw[h.refs p q hq];show cS A.ar p=cS (A.ar.set i { A.ar[i] with refs:=r }) p;omega
 ·simp only at hy;rcases r5 hy with hy | rfl
  ·exact h.pW y hy k hk
  ·exact h.pW _ (jj hi) k hk
theorem Rel.erase {A:Sn}{ps:List Pg}(h:Rel A ps){i:Nat}{x:aC}(hx:A.ar[i]?=some x):Rel { A with ar:=A.ar.eraseIdx i } (jE ps x 4):=by
 obtain⟨hi,rfl⟩:=a2.1 hx;refine⟨by rw[By];exact h.len,λp q hq=>?_,λy hy k hk=>?_⟩
 ·rw[KS]at hq;obtain⟨tE,h1,rfl⟩:=r0.1 hq;have:=h.refs p tE h1;have h2:=yV hi p;simp only[this,h2];show _-ic A.ar[i] p=_;omega
 ·obtain⟨q,h1,h2⟩:=h.pW y (List.mem_of_mem_eraseIdx hy) k hk;exact⟨⟨q.g,q.refs-jk A.ar[i] (y.p k) 4⟩,by rw[KS,h1];rfl,h2⟩
theorem alone {A:Sn}{i:Nat}{x:aC}(hx:A.ar[i]?=some x){k:Nat}(hk:k<4)(h1:cS A.ar (x.p k)≤1){j:Nat}{y:aC}(hy:A.ar[j]?=some y){k':Nat}(e6:k'<4)(he:y.p k'=x.p k):j=i∧k'=k:=by
 obtain⟨hi,rfl⟩:=a2.1 hx;have h2:=yV hi (A.ar[i].p k);have h3:=tC (x:=A.ar[i]) hk;have gZ:j=i:=by
  rcases Nat.lt_trichotomy j i with hl | hl | hl
  ·have hm : y ∈ A.ar.eraseIdx i := by
    rw[List.mem_eraseIdx_iff_getElem?];exact⟨j,by omega,hy⟩
   have h4:=va hm (A.ar[i].p k);rw[← he]at h4 h2 h3 h1;have:=tC (x:=y) e6;omega
  ·exact hl
  ·have hm : y ∈ A.ar.eraseIdx i := by
    rw[List.mem_eraseIdx_iff_getElem?];exact⟨j,by omega,hy⟩
   have h4:=va hm (A.ar[i].p k);rw[← he]at h4 h2 h3 h1;have:=tC (x:=y) e6;omega
 refine⟨gZ,?_⟩;subst gZ;rw[aD hi]at hy;cases hy;by_cases kc:k'=k
 ·exact kc
 ·have:=Wr hk e6 (Ne.symm kc) he.symm;omega
theorem Rel.put {A:Sn}{ps:List Pg}(h:Rel A ps){i:Nat}{x:aC}(hx:A.ar[i]?=some x){c:Nat}(hc:c<32)(h1:cS A.ar (x.p (c/8))=1)(v:Int)(hl:x.p (c/8)<ps.length) :
   Rel (A.put i x c v) (ps.set (x.p (c/8)) ⟨λj=>if j=c%8 then v else ps[x.p (c/8)].g j,1⟩):=by
 have hi:=(a2.1 hx).1;have hE:=(a2.1 hx).2;have hk:c/8<4:=by omega
 have yY:∀ p,cS (A.put i x c v).ar p=cS A.ar p:=λp=>by
  have:=Fh hi { x with g:=cn x.g c v } p;have h2:ic { x with g:=cn x.g c v } p=ic A.ar[i] p:=by rw[hE];exact KQ (λ_ _=>rfl) p
  simp only[Sn.put];omega
 refine⟨by rw[bz];exact h.len,λp q hq=>?_,λy hy k e6=>?_⟩
 ·rw[yY];rw[jB]at hq;by_cases hp:x.p (c/8)=p
  ·subst hp;rw[aj rfl,aj hl]at hq;cases hq;exact h1.symm
  ·rw[ag hp]at hq;exact h.refs p q hq
 ·simp only[Sn.put]at hy;obtain⟨j,hj⟩:=ke.1 hy;rw[jB]at hj;by_cases oT:i=j
  ·rw[aj oT,aj hi]at hj;cases hj;obtain⟨q,h2,h3⟩:=h.pW x (bI hx) k e6;by_cases rL:k=c/8
   ·subst rL;refine⟨⟨λj=>if j=c%8 then v else ps[x.p (c/8)].g j,1⟩,by simp[hl],λm hm=>?_⟩;rw[aD hl]at h2;cases h2;simp only[cn];by_cases kG:m=c%8
    ·rw[aj kG,aj (by omega)]
    ·rw[ag kG,ag (by omega)];exact h3 m hm
   ·have bq:x.p (c/8)≠x.p k:=λe=>rL (alone hx hk (by omega) hx e6 e.symm).2;refine⟨q,by simp only;rw[getElem?_set_ne bq];exact h2,λm hm=>?_⟩;simp only[cn];rw[ag (by omega)];exact h3 m hm
  ·rw[ag oT]at hj;obtain⟨q,h2,h3⟩:=h.pW y (bI hj) k e6;have bq:x.p (c/8)≠y.p k:=λe=>oT (alone hx hk (by omega) hj e6 e.symm).1.symm;exact⟨q,by rw[getElem?_set_ne bq];exact h2,h3⟩
theorem Rel.vb {A:Sn}{ps:List Pg}(h:Rel A ps){i:Nat}{x:aC}(hx:A.ar[i]?=some x){c f:Nat}(hc:c<32)(h1:1<cS A.ar (x.p (c/8)))(v:Int)(hl:x.p (c/8)<ps.length)(hf:f<ps.length)(h0:ps[f].refs=0) :
   Rel (A.vb i x c v f) ((ps.set (x.p (c/8)) ⟨ps[x.p (c/8)].g,ps[x.p (c/8)].refs-1⟩).set f ⟨λj=>if j=c%8 then v else ps[x.p (c/8)].g j,1⟩):=by
 have hi:=(a2.1 hx).1;have hE:=(a2.1 hx).2;have hk:c/8<4:=by omega
 have Fj:cS A.ar f=0:=by rw[← h.refs f _ (aD hf)];exact h0
 have Fk:∀ y∈A.ar,∀ k,k<4→y.p k≠f:=λy hy k e6 e=>by
  have h2:=va hy f;rw[← e]at h2 Fj;have:=tC (x:=y) e6;omega
 have eJ:=bI hx;have BA:x.p (c/8)≠f:=Fk x eJ _ hk;have KU:∀ p,ic { x with g:=cn x.g c v,p:=λj=>if j=c/8 then f else x.p j } p+(if x.p (c/8)=p then 1 else 0)=ic x p+(if f=p then 1 else 0):=λp=>by
  rw[u9,u9];simp only;rcases (by omega:c/8=0∨c/8=1∨c/8=2∨c/8=3) with e | e | e | e <;> rw[e] <;> simp <;> omega
 refine⟨by rw[bz,bz];exact h.len,λp q hq=>?_,λy hy k e6=>?_⟩
 ·have h2:=Fh hi { x with g:=cn x.g c v,p:=λj=>if j=c/8 then f else x.p j } p;have h3:=KU p;rw[hE]at h2;simp only[Sn.vb];by_cases hp:f=p
  ·subst hp;rw[getElem?_set_self (by rw[bz];exact hf)]at hq;cases hq;rw[aj rfl,ag BA]at h3;simp only;omega
  ·rw[getElem?_set_ne hp]at hq;rw[ag hp]at h3;by_cases ix:x.p (c/8)=p
   ·subst ix;rw[getElem?_set_self hl]at hq;cases hq;rw[aj rfl]at h3;have h4:=h.refs _ _ (aD hl);simp only;omega
   ·rw[getElem?_set_ne ix]at hq;rw[ag ix]at h3;have h4:=h.refs _ _ hq;omega
 ·simp only[Sn.vb]at hy;obtain⟨j,hj⟩:=ke.1 hy;rw[jB]at hj;have w4:∀ y:aC,(∃ q,ps[y.p k]?=some q∧∀ j,j<8→q.g j=y.g (8*k+j))→y.p k≠f→∃ q,((ps.set (x.p (c/8)) ⟨ps[x.p (c/8)].g,ps[x.p (c/8)].refs-1⟩).set f ⟨λj=>if j=c%8 then v else ps[x.p (c/8)].g j,1⟩)[y.p k]?=some q∧∀ j,j<8→q.g j=y.g (8*k+j):=by
   rintro y ⟨q,h2,h3⟩ hn;by_cases hp:x.p (c/8)=y.p k
   ·rw[← hp]at h2 ⊢;rw[aD hl]at h2;cases h2;refine⟨⟨ps[x.p (c/8)].g,ps[x.p (c/8)].refs-1⟩,?_,h3⟩;rw[getElem?_set_ne (Ne.symm BA),getElem?_set_self hl]
   ·exact⟨q,by rw[getElem?_set_ne (Ne.symm hn),getElem?_set_ne hp];exact h2,h3⟩
  by_cases oT:i=j
  ·rw[aj oT,aj hi]at hj;cases hj;obtain⟨q,h2,h3⟩:=h.pW x eJ k e6;by_cases rL:k=c/8
   ·subst rL;refine⟨⟨λj=>if j=c%8 then v else ps[x.p (c/8)].g j,1⟩,by simp only[if_true];rw[getElem?_set_self (by rw[bz];exact hf)],λm hm=>?_⟩;rw[aD hl]at h2;cases h2;simp only[cn];by_cases kG:m=c%8
    ·rw[aj kG,aj (by omega)]
    ·rw[ag kG,ag (by omega)];exact h3 m hm
   ·obtain⟨q',h4,h5⟩:=w4 x ⟨q,h2,h3⟩ (Fk x eJ k e6);refine⟨q',by simp only[ag rL];exact h4,λm hm=>?_⟩;simp only[cn];rw[ag (by omega)];exact h5 m hm
  ·rw[ag oT]at hj;exact w4 y (h.pW y (bI hj) k e6) (Fk y (bI hj) k e6)
end
section
def jl (x:aC×Nat):SP:=aa x.2 232 x.1.cells
def kvs (xs:List (aC×Nat)):List (Int×Value):=xs.map λx=>((x.1.id:Int),Value.pointer (some ⟨x.2,0,none⟩))
def ax (q r:Nat)(A:Sn):SP:=λh=>∃ b m ps xs,(xs.map (·.1)=A.ar∧WF A∧Rel A ps) ∧
 cp [aa q 221 [pt r,.map (some m),.int .i64 A.last],mp m (kvs xs),Room r b ps,ah jl xs] h
section
variable {W w:World}{L L' R:List SP}{q r b m i pb:Nat}{A:Sn}{ps:List Pg}{xs:List (aC×Nat)}{x y:aC}
theorem ax.open (I:U W w (ax q r A::L)):∃ b m ps xs,xs.map (·.1)=A.ar∧WF A∧Rel A ps ∧
   U W w (aa q 221 [pt r,.map (some m),.int .i64 A.last]::mp m (kvs xs)::Room r b ps::ah jl xs::L):=by
 obtain⟨⟨b,m,ps,xs⟩,⟨h1,h2,h3⟩,h4⟩:=I.jS (ι:=Nat×Nat×List Pg×List (aC×Nat)) (p:=λi=>i.2.2.2.map (·.1)=A.ar∧WF A∧Rel A i.2.2.1)
  (B:=λi h=>cp [aa q 221 [pt r,.map (some i.2.1),.int .i64 A.last],mp i.2.1 (kvs i.2.2.2),Room r i.1 i.2.2.1,ah jl i.2.2.2] h)
  (λh ⟨b,m,ps,xs,h1,h2⟩=>⟨(b,m,ps,xs),h1,h2⟩)
 exact⟨b,m,ps,xs,h1,h2,h3,h4.open λ_ h=>h⟩
theorem ax.close {last:Nat}(I:U W w L)[k:fM L (aa q 221 [pt r,.map (some m),.int .i64 last]::mp m (kvs xs)::Room r b ps::ah jl xs::L') R]
   (h1:xs.map (·.1)=A.ar) (h2:WF A) (h3:Rel A ps) (hl:A.last=last:=by rfl):U W w (ax q r A::L'):=by
 subst hl;exact U.shut (M:=[_,_,_,_]) (I.sub (M:=aa q 221 [pt r,.map (some m),.int .i64 A.last]::mp m (kvs xs)::Room r b ps::ah jl xs::L')) (λ_ x=>⟨b,m,ps,xs,⟨h1,h2,h3⟩,x⟩)
theorem qU (h1:xs.map (·.1)=A.ar)(hx:A.ar[i]?=some x):∃ pb,xs[i]?=some (x,pb):=by
 rw[← h1,bd]at hx;obtain⟨⟨y,pb⟩,h2,rfl⟩:=r0.1 hx;exact⟨pb,h2⟩
theorem U.r8 (I:U W w L)(hx:xs[i]?=some (x,pb))[k:qG L (ah jl xs) R]:U W w (aa pb 232 x.cells::ah jl (xs.eraseIdx i)::R):=by
 obtain⟨hi,he⟩:=a2.1 hx;have:=(I.perm k.perm).fA hi;rw[he]at this;exact this
theorem Wx (hx:xs[i]?=some (x,pb))(he:y.id=x.id):kvs (xs.set i (y,pb))=kvs xs:=by
 have hi:=(a2.1 hx).1;apply ext_getElem?;intro j;simp only[kvs,bd,jB];by_cases hj:i=j
 ·subst hj;rw[aj rfl,aj hi,hx];simp[he]
 ·rw[ag hj]
theorem ax.vc {B:Sn}{last:Nat}(I:U W w L)[k:fM L (aa q 221 [pt r,.map (some m),.int .i64 last]::mp m (kvs xs)::Room r b ps::aa pb 232 y.cells::ah jl (xs.eraseIdx i)::L') R]
   (hx:xs[i]?=some (x,pb)) (h1:xs.map (·.1)=A.ar) (he:y.id=x.id) (hB:B.ar=A.ar.set i y) (h2:WF B) (h3:Rel B ps) (hl:B.last=last:=by rfl):U W w (ax q r B::L'):=by
 subst hl;obtain⟨hi,_⟩:=a2.1 hx;have h0:=I.sub (M:=aa q 221 [pt r,.map (some m),.int .i64 B.last]::mp m (kvs xs)::Room r b ps::aa pb 232 y.cells::ah jl (xs.eraseIdx i)::L');have h4:=h0.sub (M:=aa pb 232 y.cells::ah jl (xs.eraseIdx i)::aa q 221 [pt r,.map (some m),.int .i64 B.last]::mp m (kvs xs)::Room r b ps::L');have h5:=U.la (f:=jl) (x:=(y,pb)) hi h4;rw[← Wx (y:=y) hx he]at h5;exact ax.close (b:=b) (m:=m) (xs:=xs.set i (y,pb)) h5 (by rw[jF,h1,hB]) h2 h3
theorem yZ (hx:A.ar[i]?=some x):A.ar=A.ar.set i x:=by
 obtain⟨hi,rfl⟩:=a2.1 hx;rw[mT]
theorem findAt (h1:xs.map (·.1)=A.ar)(hw:WF A)(hx:xs[i]?=some (x,pb)):nx (kvs xs) (x.id:Int) 0=some (i,pt pb):=by
 have hA:∀ (j:Nat) (z:aC×Nat),xs[j]?=some z→A.ar[j]?=some z.1:=λj z hz=>by rw[← h1,bd,hz];rfl
 have:=V8 (kvs:=kvs xs) (k:=(x.id:Int)) (v:=pt pb) (j:=i) 0 (by rw[kvs,bd,hx];rfl) (λj hj p hp=>by
  rw[kvs,bd]at hp;obtain⟨z,hz,rfl⟩:=r0.1 hp;intro e;simp at e;have:=hw.ids (hA j z hz) (hA i _ hx) (Int.ofNat.inj e);omega)
 rwa [ei]at this
theorem qV {last:Nat}(I:U W w (aa q 221 [pt r,.map (some m),.int .i64 last]::mp m (kvs xs)::L))(h1:xs.map (·.1)=A.ar)(hw:WF A)(hx:xs[i]?=some (x,pb)) :
   Calls prog 120 #[pt q,.int .i64 x.id] w λe w'=>e=.returned (pt pb) ∧
    U W w' (aa q 221 [pt r,.map (some m),.int .i64 last]::mp m (kvs xs)::L):=by
 have hf:=findAt h1 hw hx;refine EN func120 ntmps120 rfl rfl λa E=>?_;refine RN 6 E I λa E=>?_;replace E:=E.aQ 6;refine RN 7 E I λa E=>?_;refine SS E (KI E wX qQ Ty.t219 I (v:=pt pb) (by rw[hf];rfl)) λa E=>?_;refine RT 1 E I ?_;exact⟨rfl,I⟩
theorem KV {last:Nat}{X:Int}(I:U W w (aa q 221 [pt r,.map (some m),.int .i64 last]::mp m (kvs xs)::L))(h1:xs.map (·.1)=A.ar)(hn:∀ y∈A.ar,(y.id:Int)≠X) :
   Calls prog 120 #[pt q,.int .i64 X] w λe w'=>e=.returned (.pointer none) ∧
    U W w' (aa q 221 [pt r,.map (some m),.int .i64 last]::mp m (kvs xs)::L):=by
 have hf:nx (kvs xs) X 0=none:=KE (λp hp=>by
  obtain⟨z,hz,rfl⟩:=cX.1 hp;exact hn z.1 (by rw[← h1];exact cX.2 ⟨z,hz,rfl⟩)) 0
 refine EN func120 ntmps120 rfl rfl λa E=>?_;refine RN 6 E I λa E=>?_;replace E:=E.aQ 6;refine RN 7 E I λa E=>?_;refine SS E (KI E wX qQ Ty.t219 I (v:=.pointer none) (by rw[hf];rfl)) λa E=>?_;refine RT 1 E I ?_;exact⟨rfl,I⟩
theorem Wy (I:U W w (ax q r A::L))(hx:A.ar[i]?=some x) :
   Calls prog 214 #[pt q,.int .i64 x.id] w λe w'=>e=.returned (.int .i64 x.refs)∧U W w' (ax q r A::L):=by
 obtain⟨b,m,ps,xs,h1,hw,hr,I⟩:=ax.open I;obtain⟨pb,bf⟩:=qU h1 hx;refine EN func214 ntmps214 rfl rfl λa E=>?_;refine CL 5 E I (qV I h1 hw bf) λa w E I=>?_;refine RN 5 E I λa E=>?_;replace E:=E.aQ 10;refine RN 2 E I λa E=>?_;replace I:=I.r8 bf;refine RN 3 E I λa E=>?_;refine SS E (ae E (I.bC aC.ref)) λa E=>?_;refine RT 1 E I ?_;exact⟨rfl,ax.vc (b:=b) (m:=m) (ps:=ps) (pb:=pb) (y:=x) I bf h1 rfl (yZ hx) hw hr⟩
theorem Wz {X:Int}(I:U W w (ax q r A::L))(hn:∀ y∈A.ar,(y.id:Int)≠X) :
   Calls prog 214 #[pt q,.int .i64 X] w λe w'=>e=.returned (.int .i64 0)∧U W w' (ax q r A::L):=by
 obtain⟨b,m,ps,xs,h1,hw,hr,I⟩:=ax.open I;refine EN func214 ntmps214 rfl rfl λa E=>?_;refine CL 5 E I (KV I h1 hn) λa w E I=>?_;refine RN 5 E I λa E=>?_;replace E:=E.ek 10;refine RT 3 E I ?_;exact⟨rfl,ax.close (b:=b) (m:=m) I h1 hw hr⟩
theorem BB {c:Nat}(h:c<4096):IntKind.i64.wrap ((c:Int).tdiv 8)=(c:Int).tdiv 8:=by
 rw[show (c:Int).tdiv 8=((c/8:Nat):Int) from rM c 8];exact gy (by omega) (by omega)
theorem KW {c:Nat}(I:U W w (ax q r A::L))(hx:A.ar[i]?=some x)(hc:c<32) :
   Calls prog 308 #[pt q,.int .i64 x.id,.int .i64 c] w λe w'=>e=.returned (.tuple #[.int .i32 (x.g c),.bool true])∧U W w' (ax q r A::L):=by
 obtain⟨b,m,ps,xs,h1,hw,hr,I⟩:=ax.open I;obtain⟨pb,bf⟩:=qU h1 hx;obtain⟨fN,ix,tF⟩:=hr.live (bI hx) (k:=c/8) (by omega);refine EN func308 ntmps308 rfl rfl λa E=>?_;refine CL 6 E I (qV I h1 hw bf) λa w E I=>?_;refine RN 6 E I λa E=>?_;replace E:=E.aQ 14;refine RN 4 E I λa E=>?_;rw[bu (by omega)]at E;refine RN 3 E I λa E=>?_;rw[bu (by omega)]at E;refine RN 2 E I λa E=>?_;replace I:=I.r8 bf;refine bM 0 [10] [0,1,2,4,5,6,7,8,9,11,12,3003,1010,1013,14,15,16,17] E I λa w E I hH hC=>?_;refine RH 5 E I hH hC λa E=>?_;refine QP E (λw=>wP E (by decide) (BB (by omega))) λa E=>?_;rw[show (c:Int).tdiv 8=((c/8:Nat):Int) from rM c 8]at E;refine RH 4 E I hH hC λa E=>?_;refine QP E (λw=>A6 E (by decide)) λa E=>?_;rw[show (c:Int).tmod 8=((c%8:Nat):Int) from oO c 8]at E;refine RH 1 E I hH hC λa E=>?_;refine SS E (ae E (I.bC (aC.at (by omega)))) λa E=>?_;refine RH 0 E I hH hC λa E=>?_;refine CL 0 E I (V2 (I.pick (Room r b ps)) fN ix (Nat.mod_lt c (by decide))) λa w E I=>?_;refine RN 4 E I λa E=>?_;refine RT 0 E I ?_;exact⟨by rw[tF _ (Nat.mod_lt c (by decide)),show 8*(c/8)+c%8=c from by omega],ax.vc (b:=b) (m:=m) (ps:=ps) (pb:=pb) (y:=x) I bf h1 rfl (yZ hx) hw hr⟩
theorem KX {A:Sn}(h1:xs.map (·.1)=A.ar)(hw:WF A):∀ p∈kvs xs,p.1≠((A.last+1:Nat):Int):=by
 intro p hp;obtain⟨z,hz,rfl⟩:=cX.1 hp;have:=(hw.mS z.1 (by rw[← h1];exact cX.2 ⟨z,hz,rfl⟩)).2.1;simp only;omega
theorem WA {i:Int}(h1:-9223372036854775808≤i)(h2:i≤9223372036854775807):(Lit.int .i64 i).wf=true:=(Lit.wf_int_iff .i64 i).2 ⟨h1,h2⟩
theorem KY {last:Nat}(I:U W w (aa q 221 [pt r,.map (some m),.int .i64 last]::mp m (kvs xs)::L))(hl:last<1099511627776)(hn:∀ p∈kvs xs,p.1≠((last+1:Nat):Int)) :
   Calls prog 129 #[pt q,.agg (aC.cells x).toArray] w λe w'=>∃ pb,e=.returned (.int .i64 ((last+1:Nat):Int)) ∧
    U W w' (aa q 221 [pt r,.map (some m),.int .i64 ((last+1:Nat):Int)]::mp m (kvs xs++[(((last+1:Nat):Int),pt pb)])::aa pb 232 (aC.cells { x with refs:=1 })::L):=by
 refine EN func129 ntmps129 rfl rfl λa E=>?_;refine BX 1 E I λb3 a w E I=>?_;refine RN 7 E I λa E=>?_;rw[show ((last:Int)+1)=((last+1:Nat):Int) from rfl]at E;refine ST 2 E I (λa w E I=>?_);refine ST 2 E I (λa w E I=>?_) (hlt:=(by rw[aC.len];decide));rw[show (Value.int IntKind.i64 1)=.int .i64 ((1:Nat):Int) from rfl,aC.Fe]at I;refine bM 1 [7] [0,1,2,4,5,6,3003,1007,1008] E I λa w E I hH hC=>?_;refine RH 8 E I hH hC λa E=>?_;refine Wb E rfl I wX qQ (WA (by omega) (by omega)) hn λa w E I=>?_;refine RT 6 E I ?_;exact⟨b3,rfl,I.sub⟩
theorem U.Fl {e:Nat}(I:U W w L)(pb:Nat)[k:fL L pb e x.cells R]:Rd w pb 0 (ints .i64 4 (λk=>(x.p k:Int)+1)):=by
 have:=I.qD (b:=pb) (off:=0) (cs:=x.cells) 4 (sc:=mK.any)
 rwa [drop_zero,aC.cells,List.take_left' (dk _ _ _)]at this
theorem KZ (I:U W w (ax q r A::L))(hx:A.ar[i]?=some x)(hb:A.n+1<1099511627776) :
   Calls prog 181 #[pt q,.int .i64 x.id] w λe w'=>e=.returned (.tuple #[.int .i64 ((A.last+1:Nat):Int),.bool true])∧U W w' (ax q r (A.add x.g x.p)::L):=by
 obtain⟨b,m,ps,xs,h1,hw,hr,I⟩:=ax.open I;obtain⟨pb,bf⟩:=qU h1 hx;have eJ:=bI hx;have vd:=hw.last;have BC:=hr.add eJ;have BD:=hw.add hb x.g x.p;have ds:=BC.ok BD;refine EN func181 ntmps181 rfl rfl λa E=>?_;refine CL 6 E I (qV I h1 hw bf) λa w E I=>?_;refine RN 5 E I λa E=>?_;replace E:=E.aQ 13;refine RN 3 E I λa E=>?_;replace I:=I.r8 bf;refine RN 3 E I λa E=>?_;refine SS E (bT E u5 rfl Ty.t230 (I.Fl pb)) λa E=>?_;refine RN 1 E I λa E=>?_;refine aL (λμ a w=>∃ k:Nat,(μ=4-k∧k≤4)∧Fr a 33 [(0,pt q),(6,pt pb),(17,.agg (ints .i64 4 (λk=>(x.p k:Int)+1)).toArray),(18,.int .i64 k)]∧U W w (Room r b (ie ps x k)::aa pb 232 x.cells::ah jl (xs.eraseIdx i)::aa q 221 [pt r,.map (some m),.int .i64 A.last]::mp m (kvs xs)::L)) (4) (⟨0,⟨by simp,by simp⟩,E.ab [0,6,17,18],by rw[Ws];exact I.sub⟩) ?_;clear E I;rintro μ a w ⟨k,⟨rfl,hk⟩,E,I⟩;have WB:=yW ps x k;refine IF 3 E I (λao a E=>?_) λao a E=>?_
 ·
  refine RN 2 E I λa E=>?_;refine SS E (te E u5 fk rfl Ty.t3 (by omega) (ga _ (by omega))) λa E=>?_;refine RN 1 E I λa E=>?_;obtain⟨fN,ix,tF⟩:=hr.live eJ (k:=k) (by omega);have w5:x.p k<(ie ps x k).length:=by omega
  have Fm:=Wu w5;have WD:(ie ps x k)[x.p k].refs+1<4611686018427387904:=by
   have h3:=tB x (x.p k) (m:=k+1) (n:=4) (by omega);have h4:=ds.2 _ (jj (show x.p k<(ie ps x 4).length by rw[yW];exact fN));rw[yX]at h4 ⊢;rw[lk,aj rfl]at h3;simp only at h4 ⊢;omega
  have Fo:0<(ie ps x k)[x.p k].refs:=by rw[yX];simp only;omega
  refine CL 5 E I (V1 (I.pick (Room r b (ie ps x k))) w5 Fo WD) λa w E I=>?_;rw[Fm]at I;refine RN 2 E I λa E=>?_;exact⟨4-(k+1),by omega,k+1,⟨rfl,by omega⟩,E.ab [0,6,17,18],I.sub⟩
 obtain rfl:k=4:=by omega
 refine bg 5 E I (KY (q:=q) (r:=r) (m:=m) (last:=A.last) (L:=Room r b (ie ps x 4)::aa pb 232 x.cells::ah jl (xs.eraseIdx i)::L) I.sub (by have:=hw.bound;omega) (KX h1 hw)) λw6 a w E I=>?_;refine RT 2 E I ?_;refine⟨rfl,?_⟩;have hi:=(a2.1 bf).1;have h5:=U.la (f:=jl) (x:=(x,pb)) hi (I.sub (M:=aa pb 232 x.cells::ah jl (xs.eraseIdx i)::aa w6 232 (aC.cells { x with refs:=1 })::aa q 221 [pt r,.map (some m),.int .i64 ((A.last+1:Nat):Int)]::mp m (kvs xs++[(((A.last+1:Nat):Int),pt w6)])::Room r b (ie ps x 4)::L));rw[show xs.set i (x,pb)=xs from by
  have:=a2.1 bf;rw[← this.2,mT]]at h5
 have h6:=U.j7 (f:=jl) (x:=(⟨A.last+1,1,x.g,x.p⟩,w6)) (h5.perm (c1 _ _ _));rw[show kvs xs++[(((A.last+1:Nat):Int),Value.pointer (some ⟨w6,0,none⟩))]=kvs (xs++[(⟨A.last+1,1,x.g,x.p⟩,w6)]) from by simp[kvs]]at h6;exact ax.close (last:=A.last+1) (b:=b) (m:=m) (xs:=xs++[(⟨A.last+1,1,x.g,x.p⟩,w6)]) h6 (by simp[Sn.add,h1]) BD BC
theorem WE (I:U W w (ax q r A::L))(hx:A.ar[i]?=some x)(h2:x.refs≠1) :
   Calls prog 185 #[pt q,.int .i64 x.id] w λe w'=>e=.returned (.bool true)∧U W w' (ax q r (A.drop i x)::L):=by
 obtain⟨b,m,ps,xs,h1,hw,hr,I⟩:=ax.open I;obtain⟨pb,bf⟩:=qU h1 hx;have tG:=hw.mS x (bI hx);have hA:A.drop i x={ A with n:=A.n,ar:=A.ar.set i { x with refs:=x.refs-1 } }:=by rw[Sn.drop,ag h2]
 have nZ:=hw.bound;refine EN func185 ntmps185 rfl rfl λa E=>?_;refine CL 5 E I (qV I h1 hw bf) λa w E I=>?_;refine RN 5 E I λa E=>?_;replace E:=E.aQ 12;refine RN 3 E I λa E=>?_;replace I:=I.r8 bf;refine RN 3 E I λa E=>?_;refine SS E (ae E (I.bC aC.ref)) λa E=>?_;refine ST 3 E I (λa w E I=>?_) (hlt:=(by rw[aC.len];decide));rw[show ((x.refs:Int)-1)=((x.refs-1:Nat):Int) from by omega,aC.Fe]at I;refine RN 4 E I λa E=>?_;refine SS E (ae E (I.bC aC.ref)) λa E=>?_;refine RN 1 E I λa E=>?_;rw[dr (by simp;omega)]at E;refine RT 3 E I ?_;exact⟨rfl,ax.vc (last:=A.last) (b:=b) (m:=m) (ps:=ps) (pb:=pb) (y:={ x with refs:=x.refs-1 }) (B:=A.drop i x) I bf h1 rfl (by rw[hA]) (by rw[hA];exact hw.set nZ (a7 _) hx rfl (by simp only;omega)) (by rw[hA];exact hr.Ww hx)⟩
theorem WG (I:U W w (ax q r A::L))(hx:A.ar[i]?=some x)(h2:x.refs=1) :
   Calls prog 185 #[pt q,.int .i64 x.id] w λe w'=>e=.returned (.bool true)∧U W w' (ax q r (A.drop i x)::L):=by
 obtain⟨b,m,ps,xs,h1,hw,hr,I⟩:=ax.open I;obtain⟨pb,bf⟩:=qU h1 hx;have eJ:=bI hx;have hA:A.drop i x={ A with ar:=A.ar.eraseIdx i }:=by rw[Sn.drop,aj h2]
 refine EN func185 ntmps185 rfl rfl λa E=>?_;refine CL 5 E I (qV I h1 hw bf) λa w E I=>?_;refine RN 5 E I λa E=>?_;replace E:=E.aQ 12;refine RN 3 E I λa E=>?_;replace I:=I.r8 bf;refine RN 3 E I λa E=>?_;refine SS E (ae E (I.bC aC.ref)) λa E=>?_;refine ST 3 E I (λa w E I=>?_) (hlt:=(by rw[aC.len];decide));rw[show ((x.refs:Int)-1)=((x.refs-1:Nat):Int) from by omega,aC.Fe]at I;refine RN 4 E I λa E=>?_;refine SS E (ae E (I.bC aC.ref)) λa E=>?_;refine RN 1 E I λa E=>?_;rw[bu (by simp;omega)]at E;refine RN 6 E I λa E=>?_;refine SS E (bT E u5 rfl Ty.t230 (I.Fl (x:={ x with refs:=x.refs-1 }) pb)) λa E=>?_;refine RN 1 E I λa E=>?_;refine aL (λμ a w=>∃ k:Nat,(μ=4-k∧k≤4)∧Fr a 44 [(0,pt q),(1,.int .i64 x.id),(28,.agg (ints .i64 4 (λk=>(x.p k:Int)+1)).toArray),(29,.int .i64 k)]∧U W w (Room r b (jE ps x k)::ah jl (xs.eraseIdx i)::aa q 221 [pt r,.map (some m),.int .i64 A.last]::mp m (kvs xs)::L)) (4) (⟨0,⟨by simp,by simp⟩,E.ab [0,1,28,29],by rw[Wt];exact I.sub⟩) ?_;clear E I;rintro μ a w ⟨k,⟨rfl,hk⟩,E,I⟩;have WB:=By ps x k;refine IF 3 E I (λay a E=>?_) λay a E=>?_
 ·
  refine RN 2 E I λa E=>?_;refine SS E (te E u5 fk rfl Ty.t3 (by omega) (ga _ (by omega))) λa E=>?_;refine RN 1 E I λa E=>?_;obtain⟨fN,ix,tF⟩:=hr.live eJ (k:=k) (by omega);have w5:x.p k<(jE ps x k).length:=by omega
  have Fm:=Wv w5;have Fo:0<(jE ps x k)[x.p k].refs:=by
   have h3:=tB x (x.p k) (m:=k+1) (n:=4) (by omega);have h4:=hr.refs _ _ (aD fN);have h5:jk x (x.p k) 4≤cS A.ar (x.p k):=va eJ (x.p k);rw[lk,aj rfl]at h3;rw[Bz];simp only;omega
  refine CL 5 E I (KB (I.pick (Room r b (jE ps x k))) w5 Fo) λa w E I=>?_;rw[Fm]at I;refine RN 2 E I λa E=>?_;exact⟨4-(k+1),by omega,k+1,⟨rfl,by omega⟩,E.ab [0,1,28,29],I.sub⟩
 obtain rfl:k=4:=by omega
 refine RN 6 E I λa E=>?_;refine We E rfl I wX qQ (findAt h1 hw bf) λa w E I=>?_;refine RT 2 E I ?_;have hk:(kvs xs).eraseIdx i=kvs (xs.eraseIdx i):=(yT _ _ _).symm;rw[hk]at I;exact⟨rfl,ax.close (last:=A.last) (b:=b) (m:=m) (ps:=jE ps x 4) (xs:=xs.eraseIdx i) I (by rw[hA,yT,h1]) (by rw[hA];exact hw.erase i) (by rw[hA];exact hr.erase hx) (by rw[hA])⟩
theorem WH (I:U W w (ax q r A::L))(hx:A.ar[i]?=some x) :
   Calls prog 185 #[pt q,.int .i64 x.id] w λe w'=>e=.returned (.bool true)∧U W w' (ax q r (A.drop i x)::L):=by
 by_cases h:x.refs=1
 ·exact WG I hx h
 ·exact WE I hx h
theorem WI {X:Int}(I:U W w (ax q r A::L))(hn:∀ y∈A.ar,(y.id:Int)≠X) :
   Calls prog 185 #[pt q,.int .i64 X] w λe w'=>e=.returned (.bool false)∧U W w' (ax q r A::L):=by
 obtain⟨b,m,ps,xs,h1,hw,hr,I⟩:=ax.open I;refine EN func185 ntmps185 rfl rfl λa E=>?_;refine CL 5 E I (KV I h1 hn) λa w E I=>?_;refine RN 5 E I λa E=>?_;replace E:=E.ek 12;refine RT 3 E I ?_;exact⟨rfl,ax.close (b:=b) (m:=m) I h1 hw hr⟩
theorem WF.put (hw:WF A)(hx:A.ar[i]?=some x){g:Nat→Int}{p:Nat→Nat}:WF { A with ar:=A.ar.set i { x with g:=g,p:=p } } :=
 hw.set (n:=A.n) (y:={ x with g:=g,p:=p }) hw.bound (a7 _) hx rfl (by have:=hw.mS x (bI hx);simp only;omega)
theorem WJ {c:Nat}{v:Int}(I:U W w (ax q r A::L))(hx:A.ar[i]?=some x)(hc:c<32)(h1:cS A.ar (x.p (c/8))=1) :
   Calls prog 346 #[pt q,.int .i64 x.id,.int .i64 c,.int .i32 v] w λe w'=>e=.returned (.bool true)∧U W w' (ax q r (A.put i x c v)::L):=by
 obtain⟨b,m,ps,xs,h2,hw,hr,I⟩:=ax.open I;obtain⟨pb,bf⟩:=qU h2 hx;obtain⟨fN,ix,tF⟩:=hr.live (bI hx) (k:=c/8) (by omega);have w7:ps[x.p (c/8)].refs=1:=by rw[hr.refs _ _ (aD fN)];exact h1
 refine EN func346 ntmps346 rfl rfl λa E=>?_;refine CL 5 E I (qV I h2 hw bf) λa w E I=>?_;refine RN 6 E I λa E=>?_;replace E:=E.aQ 18;refine RN 4 E I λa E=>?_;rw[bu (by omega)]at E;refine RN 3 E I λa E=>?_;rw[bu (by omega)]at E;refine RN 2 E I λa E=>?_;replace I:=I.r8 bf;refine RN 2 E I λa E=>?_;refine SS E (wP E (by decide) (BB (by omega))) λa E=>?_;rw[show (c:Int).tdiv 8=((c/8:Nat):Int) from rM c 8]at E;refine bM 6 [6] [0,1,2,4,5,3003,1006,1007,8] E I λa w E I hH hC=>?_;refine RH 6 E I hH hC λa E=>?_;refine SS E (ae E (I.bC (aC.at (by omega)))) λa E=>?_;refine RH 0 E I hH hC λa E=>?_;refine CL 0 E I (Bn (I.pick (Room r b ps)) fN ix) λa w E I=>?_;rw[w7]at E;refine RN 1 E I λa E=>?_;rw[bu (by omega)]at E;refine bM 2 [6] [0,1,2,4,5,7,8,9,3003,1006,1010,11] E I λa w E I hH hC=>?_;refine RH 6 E I hH hC λa E=>?_;refine QP E (λw=>A6 E (by decide)) λa E=>?_;rw[show (c:Int).tmod 8=((c%8:Nat):Int) from oO c 8]at E;refine RH 2 E I hH hC λa E=>?_;refine SS E (ae E (I.bC (aC.at (by omega)))) λa E=>?_;refine RH 0 E I hH hC λa E=>?_;refine CL 0 E I (E5 (I.pick (Room r b ps)) fN w7 (Nat.mod_lt c (by decide))) λa w E I=>?_;refine RN 1 E I λa E=>?_;refine RT 0 E I ?_;rw[show x.cells=aC.cells { x with g:=cn x.g c v } from rfl]at I;exact⟨rfl,ax.vc (B:=A.put i x c v) (last:=A.last) (b:=b) (m:=m) (pb:=pb) (y:={ x with g:=cn x.g c v }) (ps:=ps.set (x.p (c/8)) ⟨λj=>if j=c%8 then v else ps[x.p (c/8)].g j,1⟩) I bf h2 rfl rfl (hw.put hx) (hr.put hx hc h1 v fN)⟩
theorem K0 {ps:List Pg}(h:Bo ps):kb ps=ps.length:=by
 rw[kb,List.countP_eq_length];intro p hp;obtain⟨i,hi,rfl⟩:=List.mem_iff_getElem.1 hp;have:=h i hi;simp;omega
theorem WK {ps:List Pg}{f:Nat}(h:u6 ps f):kb ps<ps.length:=by
 obtain⟨hf,h0,_⟩:=h;have h1:=wZ ps;rcases gX (kb ps) ps.length with h2 | h2
 ·exact h2
 ·have:=(List.countP_eq_length (p:=λp:Pg=>decide (0<p.refs)) (l:=ps)).1 (Nat.le_antisymm h1 h2) _ (jj hf);simp at this;omega
theorem WL {c:Nat}{v:Int}(I:U W w (ax q r A::L))(hx:A.ar[i]?=some x)(hc:c<32)(h1:1<cS A.ar (x.p (c/8)))(hu:A.used<A.room) :
   Calls prog 346 #[pt q,.int .i64 x.id,.int .i64 c,.int .i32 v] w λe w'=>∃ f,e=.returned (.bool true)∧(f<A.room∧cS A.ar f=0)∧U W w' (ax q r (A.vb i x c v f)::L):=by
 obtain⟨b,m,ps,xs,h2,hw,hr,I⟩:=ax.open I;obtain⟨pb,bf⟩:=qU h2 hx;obtain⟨fN,ix,tF⟩:=hr.live (bI hx) (k:=c/8) (by omega);have w7:ps[x.p (c/8)].refs=cS A.ar (x.p (c/8)):=hr.refs _ _ (aD fN);rcases E6 ps with bX | ⟨f,hf⟩
 ·have:=K0 bX;rw[hr.used,hr.len]at this;omega
 have jA:=hf.1;have jT:=hf.2.1;have Fj:cS A.ar f=0:=by rw[← hr.refs f _ (aD jA)];exact jT
 have bq:x.p (c/8)≠f:=by
  intro e;rw[e]at h1;omega
 have ll:x.p (c/8)<(ps.set f ⟨ps[x.p (c/8)].g,1⟩).length:=by rw[bz];exact fN
 have e1:(ps.set f ⟨ps[x.p (c/8)].g,1⟩)[x.p (c/8)]=ps[x.p (c/8)]:=List.getElem_set_ne (Ne.symm bq) _;have mm:f<((ps.set f ⟨ps[x.p (c/8)].g,1⟩).set (x.p (c/8)) ⟨ps[x.p (c/8)].g,ps[x.p (c/8)].refs-1⟩).length:=by rw[bz,bz];exact jA
 have e2:((ps.set f ⟨ps[x.p (c/8)].g,1⟩).set (x.p (c/8)) ⟨ps[x.p (c/8)].g,ps[x.p (c/8)].refs-1⟩)[f]=⟨ps[x.p (c/8)].g,1⟩:=by rw[List.getElem_set_ne bq,oP]
 have fC:((ps.set f ⟨ps[x.p (c/8)].g,1⟩).set (x.p (c/8)) ⟨ps[x.p (c/8)].g,ps[x.p (c/8)].refs-1⟩).set f ⟨λj=>if j=c%8 then v else ps[x.p (c/8)].g j,1⟩=(ps.set (x.p (c/8)) ⟨ps[x.p (c/8)].g,ps[x.p (c/8)].refs-1⟩).set f ⟨λj=>if j=c%8 then v else ps[x.p (c/8)].g j,1⟩:=by
  rw[List.set_comm _ _ (Ne.symm bq),set_set]
 refine EN func346 ntmps346 rfl rfl λa E=>?_;refine CL 5 E I (qV I h2 hw bf) λa w E I=>?_;refine RN 6 E I λa E=>?_;replace E:=E.aQ 18;refine RN 4 E I λa E=>?_;rw[bu (by omega)]at E;refine RN 3 E I λa E=>?_;rw[bu (by omega)]at E;refine RN 2 E I λa E=>?_;replace I:=I.r8 bf;refine RN 2 E I λa E=>?_;refine SS E (wP E (by decide) (BB (by omega))) λa E=>?_;rw[show (c:Int).tdiv 8=((c/8:Nat):Int) from rM c 8]at E;refine bM 6 [6] [0,1,2,4,5,3003,1006,1007,8] E I λa w E I hH hC=>?_;refine RH 6 E I hH hC λa E=>?_;refine SS E (ae E (I.bC (aC.at (by omega)))) λa E=>?_;refine RH 0 E I hH hC λa E=>?_;refine CL 0 E I (Bn (I.pick (Room r b ps)) fN ix) λa w E I=>?_;refine RN 1 E I λa E=>?_;rw[dr (by omega)]at E;refine bM 2 [6] [0,1,2,4,5,3003,1006,1007,8,9,10,11,12] E I λa w E I hH hC=>?_;refine RH 6 E I hH hC λa E=>?_;refine SS E (ae E (I.bC (aC.at (by omega)))) λa E=>?_;refine RH 0 E I hH hC λa E=>?_;refine CL 0 E I (V5 (I.pick (Room r b ps)) fN ix hf) λa w E I=>?_;refine RN 5 E I λa E=>?_;refine RN 4 E I λa E=>?_;replace E:=E.aQ 53;refine bM 2 [6] [0,1,2,4,5,3003,1006,1007] E I λa w E I hH hC=>?_;refine RH 6 E I hH hC λa E=>?_;refine SS E (ae E (I.bC (aC.at (by omega)))) λa E=>?_;refine RH 0 E I hH hC λa E=>?_;refine CL 0 E I (KB (I.pick (Room r b (ps.set f ⟨ps[x.p (c/8)].g,1⟩))) ll (by rw[e1];exact ix)) λa w E I=>?_;rw[e1]at I;refine ST 3 E I (λa w E I=>?_) (hlt:=(by rw[aC.len];omega));rw[aC.Wq (by omega) (cn x.g c v)]at I;refine bM 1 [6] [0,1,2,4,5,7,8,9,3003,1006,1010,11] E I λa w E I hH hC=>?_;refine RH 6 E I hH hC λa E=>?_;refine QP E (λw=>A6 E (by decide)) λa E=>?_;rw[show (c:Int).tmod 8=((c%8:Nat):Int) from oO c 8]at E;refine RH 2 E I hH hC λa E=>?_;refine SS E (ae E (I.bC (aC.at (x:={ x with p:=λj=>if j=c/8 then f else x.p j,g:=cn x.g c v }) (by omega)))) λa E=>?_;simp only[if_true]at E;refine RH 0 E I hH hC λa E=>?_;refine CL 0 E I (E5 (I.pick (Room r b ((ps.set f ⟨ps[x.p (c/8)].g,1⟩).set (x.p (c/8)) ⟨ps[x.p (c/8)].g,ps[x.p (c/8)].refs-1⟩))) mm (by rw[e2]) (Nat.mod_lt c (by decide))) λa w E I=>?_;rw[e2,fC]at I;refine RN 1 E I λa E=>?_;refine RT 0 E I ?_;exact⟨f,rfl,⟨hr.len ▸ jA,Fj⟩,ax.vc (B:=A.vb i x c v f) (last:=A.last) (b:=b) (m:=m) (pb:=pb) (y:={ x with p:=λj=>if j=c/8 then f else x.p j,g:=cn x.g c v }) I bf h2 rfl rfl (hw.put hx) (hr.vb hx hc h1 v fN jA jT)⟩
theorem WM {c:Nat}{v:Int}(I:U W w (ax q r A::L))(hx:A.ar[i]?=some x)(hc:c<32)(h1:1<cS A.ar (x.p (c/8)))(hu:A.room≤A.used) :
   Calls prog 346 #[pt q,.int .i64 x.id,.int .i64 c,.int .i32 v] w λe w'=>e=.returned (.bool false)∧U W w' (ax q r A::L):=by
 obtain⟨b,m,ps,xs,h2,hw,hr,I⟩:=ax.open I;obtain⟨pb,bf⟩:=qU h2 hx;obtain⟨fN,ix,tF⟩:=hr.live (bI hx) (k:=c/8) (by omega);have w7:ps[x.p (c/8)].refs=cS A.ar (x.p (c/8)):=hr.refs _ _ (aD fN);rcases E6 ps with bX | ⟨f,hf⟩
 rotate_left
 ·have:=WK hf;rw[hr.used,hr.len]at this;omega
 refine EN func346 ntmps346 rfl rfl λa E=>?_;refine CL 5 E I (qV I h2 hw bf) λa w E I=>?_;refine RN 6 E I λa E=>?_;replace E:=E.aQ 18;refine RN 4 E I λa E=>?_;rw[bu (by omega)]at E;refine RN 3 E I λa E=>?_;rw[bu (by omega)]at E;refine RN 2 E I λa E=>?_;replace I:=I.r8 bf;refine RN 2 E I λa E=>?_;refine SS E (wP E (by decide) (BB (by omega))) λa E=>?_;rw[show (c:Int).tdiv 8=((c/8:Nat):Int) from rM c 8]at E;refine bM 6 [6] [0,1,2,4,5,3003,1006,1007,8] E I λa w E I hH hC=>?_;refine RH 6 E I hH hC λa E=>?_;refine SS E (ae E (I.bC (aC.at (by omega)))) λa E=>?_;refine RH 0 E I hH hC λa E=>?_;refine CL 0 E I (Bn (I.pick (Room r b ps)) fN ix) λa w E I=>?_;refine RN 1 E I λa E=>?_;rw[dr (by omega)]at E;refine bM 2 [6] [0,1,2,4,5,3003,1006,1007,8,9,10,11,12] E I λa w E I hH hC=>?_;refine RH 6 E I hH hC λa E=>?_;refine SS E (ae E (I.bC (aC.at (by omega)))) λa E=>?_;refine RH 0 E I hH hC λa E=>?_;refine CL 0 E I (V4 (I.pick (Room r b ps)) fN ix bX) λa w E I=>?_;refine RN 5 E I λa E=>?_;refine RN 4 E I λa E=>?_;replace E:=E.ek 53;refine RT 3 E I ?_;exact⟨rfl,ax.vc (b:=b) (m:=m) (ps:=ps) (pb:=pb) (y:=x) I bf h2 rfl (yZ hx) hw hr⟩
end
end
end Go.Proofs.YteoldcfapaiobaaGreat
