/- The walks of package page. -/
import Derived.Test.YteoldcfapaiobaaGreatH01Row
import Derived.Maps.Own
import Derived.Shelf.SlIterI.Nil
import Derived.Shelf.SortM.Plain
import Derived.Shelf.SortM.SortNone
import Derived.DataShut
namespace Go.Proofs.YteoldcfapaiobaaGreat
open Tryz
open List (drop_zero take_zero nil_append map_cons getElem?_cons_succ length_nil mem_range getElem?_toArray getElem?_range ext_getElem eraseIdx_set_eq ext_getElem? set_set map_take map_drop map_nil mem_of_mem_eraseIdx range_succ countP_congr getElem?_set_ne getElem?_set_self)
open Go.RowKit
set_option linter.unusedVariables false
set_option linter.unusedSimpArgs false
set_option maxRecDepth 10000
set_option synthInstance.maxSize 4000
set_option synthInstance.maxHeartbeats 400000
section
structure Pg where
 g:Nat→Int
 refs:Nat
def Pg.cells (p:Pg):List Value:=ints .i32 8 p.g++[.int .i64 p.refs]
def hY (ps:List Pg):List Value:=rows Pg.cells ps
def sY:Pg:=⟨λ_=>0,0⟩
def pD:Pg:=⟨λ_=>0,1⟩
theorem Pg.len (p:Pg):p.cells.length=9:=by simp[Pg.cells,di]
theorem wj (ps:List Pg):(hY ps).length=ps.length*9:=iG Pg.len ps
theorem Pg.one (p:Pg):∀ v∈p.cells,v.oneCell'=true:=by
 intro v hv;rcases eX.1 hv with h | h
 ·exact uy v h
 ·simp at h;subst h;rfl
theorem sZ {ps:List Pg}{i:Nat}(h:i<ps.length):(hY ps)[i*9+8]?=some (.int .i64 ps[i].refs):=Ao Pg.len ps h (by simp[Pg.cells,di])
theorem Uu {ps:List Pg}{i k:Nat}(h:i<ps.length)(hk:k<8):(hY ps)[i*9+k]?=some (.int .i32 (ps[i].g k)):=Ao Pg.len ps h (by
 rw[Pg.cells,mv (by rw[di];exact hk),fX _ hk])
theorem Jg {ps:List Pg}{i r:Nat}(h:i<ps.length):(hY ps).set (i*9+8) (.int .i64 r)=hY (ps.set i ⟨ps[i].g,r⟩):=qx Pg.len ps _ h (by decide) (by
 rw[Pg.cells,vU _ _ (by rw[di];exact bh _),di];rfl)
theorem Uv {ps:List Pg}{i k:Nat}{v:Int}(h:i<ps.length)(hk:k<8):(hY ps).set (i*9+k) (.int .i32 v)=hY (ps.set i ⟨λj=>if j=k then v else ps[i].g j,ps[i].refs⟩):=qx Pg.len ps _ h (by omega) (by
 rw[Pg.cells,uu _ _ (by rw[di];exact hk),ints_set];rfl)
theorem Uw {ps:List Pg}{i:Nat}(p:Pg)(h:i<ps.length):cD (hY ps) (i*9) p.cells=hY (ps.set i p):=IZ Pg.len ps p h
theorem Ux {ps:List Pg}{i:Nat}(h:i<ps.length):((hY ps).drop (i*9)).take 8=ints .i32 8 ps[i].g:=by
 have:=Rx (k:=0) (m:=8) Pg.len ps h (by decide);simp only[Nat.add_zero,drop_zero]at this;rw[hY,this,Pg.cells,List.take_left' (di _ _ _)]
theorem Uy {ps:List Pg}{i:Nat}{g:Nat→Int}(h:i<ps.length):cD (hY ps) (i*9) (ints .i32 8 g)=hY (ps.set i ⟨g,ps[i].refs⟩):=by
 have:=Rw (k:=0) (vs:=ints .i32 8 g) Pg.len ps ⟨g,ps[i].refs⟩ h (by rw[di];decide) (by
  simp only[cD,Pg.cells,take_zero,nil_append,di,ep];rw[List.drop_left' (di _ _ _)])
 rw[Nat.add_zero]at this;exact this
def Room (q b:Nat)(ps:List Pg):SP:=λh=>(ps.length≤200∧∀ p∈ps,p.refs<4611686018427387904)∧cp [aa q 224 [.slice (some ⟨b,0,none⟩) ps.length ps.length],aa b 227 (hY ps)] h
theorem Room.open {W w:World}{L:List SP}{q b:Nat}{ps:List Pg}(I:U W w (Room q b ps::L)):(ps.length≤200∧∀ p∈ps,p.refs<4611686018427387904) ∧
   U W w (aa q 224 [.slice (some ⟨b,0,none⟩) ps.length ps.length]::aa b 227 (hY ps)::L) :=
 ⟨I.tell λ_ h=>h.1,I.open λ_ h=>h.2⟩
theorem Room.close {W w:World}{L L' R:List SP}{q b n:Nat}{ps:List Pg}(I:U W w L)(hn:ps.length=n)(h:ps.length≤200∧∀ p∈ps,p.refs<4611686018427387904)
   [k:fN L (aa q 224 [.slice (some ⟨b,0,none⟩) n n]::aa b 227 (hY ps)::L') R]:U W w (Room q b ps::L'):=by
 subst hn;exact U.shut (M:=[_,_]) (I.sub (M:=aa q 224 [.slice (some ⟨b,0,none⟩) ps.length ps.length]::aa b 227 (hY ps)::L')) (λ_ x=>⟨h,x⟩)
theorem Uz (n:Nat):(madeCells (Value.cells (.agg #[.int .i32 0,.int .i32 0,.int .i32 0,.int .i32 0,.int .i32 0,.int .i32 0,.int .i32 0,.int .i32 0,.int .i64 0])) (n*9)).toList=hY (List.replicate n sY):=by
 apply ext_getElem?;intro i;by_cases hi:i<n*9
 ·obtain⟨j,k,hk,rfl⟩:∃ j k,k<9∧i=j*9+k:=⟨i/9,i%9,Nat.mod_lt _ (by decide),by omega⟩;have hj:j<(List.replicate n sY).length:=by simp;omega
  have hv:(Pg.cells sY)[k]?=some ((Pg.cells sY)[k]'(by rw[Pg.len];exact hk)):=aD _;rw[hY,Ao Pg.len _ hj (by rw[List.getElem_replicate];exact hv)];simp only[madeCells,Value.cells,Array.toList_map,bm];rw[Array.toList_range,getElem?_range hi];have h1:(j*9+k)%9=k:=by omega
  simp only[Option.map_some,List.size_toArray,fm,length_nil,Nat.reduceAdd,h1,Option.some.injEq];rcases k with _ | _ | _ | _ | _ | _ | _ | _ | _ | k <;> first | rfl | omega
 ·rw[iD,iD]
  ·rw[wj];simp;omega
  ·simp[madeCells];omega
theorem UA {W w:World}{L:List SP}{n:Nat}(I:U W w L)(hn:n≤200) :
   Calls prog 124 #[.int .i64 n] w λe V=>∃ q b,e=.returned (pt q)∧U W V (Room q b (List.replicate n sY)::L):=by
 refine EN func124 ntmps124 rfl rfl λa E=>?_;refine RN 6 E I λa E=>?_;rw[show min (max (n:Int) 0) 200=(n:Int) from by omega]at E;refine rv E rfl I underlying222 Ty.t227 rfl (by omega) (by omega) λcG a w E I ho=>?_;clear ho;rw[Uz]at I;refine BX 1 E I λb8 a w E I=>?_;refine RT 1 E I ?_;refine⟨b8,cG,rfl,(Room.close (n:=_) I kC ⟨by simp;exact hn,?_⟩)⟩;intro p hp;rw[(List.mem_replicate.1 hp).2];decide
section
variable {W w:World}{L:List SP}{q b i:Nat}{ps:List Pg}
theorem s0 (I:U W w (Room q b ps::L))(hi:i<ps.length)(hr:0<ps[i].refs) :
   Calls prog 122 #[pt q,.int .i64 ((i:Int)+1)] w λe V=>e=.returned (.pointer (some ⟨b,i*9,none⟩))∧U W V (Room q b ps::L):=by
 obtain⟨hp,I⟩:=Room.open I;refine EN func122 ntmps122 rfl rfl λa E=>?_;refine RN 7 E I λa E=>?_;replace E:=E.aK 7;refine RN 4 E I λa E=>?_;rw[bn (by omega)]at E;refine RN 9 E I λa E=>?_;rw[bn (by omega)]at E;refine RN 6 E I λa E=>?_;rw[show (i:Int)+1-1=(i:Int) from by omega]at E;refine RN 2 E I λa E=>?_;refine bu E (cu E rfl (s:=20)) (ae E (I.bz (sZ hi))) rfl λa E=>?_;refine RN 2 E I λa E=>?_;rw[bn (by omega)]at E;refine RN 8 E I λa E=>?_;rw[show (i:Int)+1-1=(i:Int) from by omega]at E;refine RT 2 E I ?_;exact⟨rfl,(Room.close (n:=_) I rfl hp)⟩
theorem U.Jh {R:List SP}{e:Nat}(I:U W w L)[k:fM L b e (hY ps) R](hi:i<ps.length):Rd w b (i*9) (ints .i32 8 ps[i].g):=by
 rw[← Ux hi];exact I.qm 8
theorem U.UB {R:List SP}{e:Nat}(I:U W w L)[k:fM L b e (hY ps) R](hi:i<ps.length):Rd w b (i*9) ps[i].cells:=by
 rw[← vZ Pg.len ps i hi];exact I.qm 9
theorem Ay (I:U W w (Room q b ps::L))(hi:i<ps.length)(hr:0<ps[i].refs) :
   Calls prog 86 #[pt q,.int .i64 ((i:Int)+1)] w λe V=>e=.returned (.int .i64 ps[i].refs)∧U W V (Room q b ps::L):=by
 refine EN func86 ntmps86 rfl rfl λa E=>?_;refine CL 5 E I (s0 I hi hr) λa w E I=>?_;refine RN 5 E I λa E=>?_;replace E:=E.aK 10;refine RN 2 E I λa E=>?_;obtain⟨hp,I⟩:=Room.open I;refine RN 3 E I λa E=>?_;refine SS E (ae E (I.bz (sZ hi))) λa E=>?_;refine RT 1 E I ?_;exact⟨rfl,(Room.close (n:=_) I rfl hp)⟩
theorem yj {ps:List Pg}{i r:Nat}{g:Nat→Int}(hp:ps.length≤200∧∀ p∈ps,p.refs<4611686018427387904)(hr:r<4611686018427387904) :
   (ps.set i ⟨g,r⟩).length≤200∧∀ p∈ps.set i ⟨g,r⟩,p.refs<4611686018427387904:=by
 refine⟨by rw[bt];exact hp.1,λp h=>?_⟩;rcases qA h with h | h
 ·exact hp.2 p h
 ·rw[h];exact hr
theorem UC (I:U W w (Room q b ps::L))(hi:i<ps.length)(hr:0<ps[i].refs)(hb:ps[i].refs+1<4611686018427387904) :
   Calls prog 208 #[pt q,.int .i64 ((i:Int)+1)] w λe V=>e=.returned (.bool true)∧U W V (Room q b (ps.set i ⟨ps[i].g,ps[i].refs+1⟩)::L):=by
 refine EN func208 ntmps208 rfl rfl λa E=>?_;refine CL 5 E I (s0 I hi hr) λa w E I=>?_;refine RN 5 E I λa E=>?_;replace E:=E.eG 10;refine RN 1 E I λa E=>?_;obtain⟨hp,I⟩:=Room.open I;refine RN 3 E I λa E=>?_;refine SS E (ae E (I.bz (sZ hi))) λa E=>?_;refine ST 3 E I (λa w E I=>?_) (hlt:=(by rw[wj];omega));rw[show ((ps[i].refs:Int)+1)=((ps[i].refs+1:Nat):Int) from rfl,Jg hi]at I;refine RT 4 E I ?_;exact⟨rfl,(Room.close (n:=ps.length) I bt (yj hp hb))⟩
theorem Ji (I:U W w (Room q b ps::L))(hi:i<ps.length)(hr:0<ps[i].refs) :
   Calls prog 213 #[pt q,.int .i64 ((i:Int)+1)] w λe V=>e=.returned (.bool true)∧U W V (Room q b (ps.set i ⟨ps[i].g,ps[i].refs-1⟩)::L):=by
 refine EN func213 ntmps213 rfl rfl λa E=>?_;refine CL 5 E I (s0 I hi hr) λa w E I=>?_;refine RN 5 E I λa E=>?_;replace E:=E.eG 10;refine RN 1 E I λa E=>?_;obtain⟨hp,I⟩:=Room.open I;have hb:=hp.2 _ (iI hi);refine RN 3 E I λa E=>?_;refine SS E (ae E (I.bz (sZ hi))) λa E=>?_;refine ST 3 E I (λa w E I=>?_) (hlt:=(by rw[wj];omega));rw[show ((ps[i].refs:Int)-1)=((ps[i].refs-1:Nat):Int) from by omega,Jg hi]at I;refine RT 4 E I ?_;exact⟨rfl,(Room.close (n:=ps.length) I bt (yj hp (by omega)))⟩
theorem UD {k:Nat}(I:U W w (Room q b ps::L))(hi:i<ps.length)(hr:0<ps[i].refs)(hk:k<8) :
   Calls prog 323 #[pt q,.int .i64 ((i:Int)+1),.int .i64 k] w λe V=>e=.returned (.tuple #[.int .i32 (ps[i].g k),.bool true])∧U W V (Room q b ps::L):=by
 refine EN func323 ntmps323 rfl rfl λa E=>?_;refine CL 6 E I (s0 I hi hr) λa w E I=>?_;refine RN 6 E I λa E=>?_;replace E:=E.aK 14;refine RN 4 E I λa E=>?_;rw[bn (by omega)]at E;refine RN 3 E I λa E=>?_;rw[bn (by omega)]at E;refine RN 2 E I λa E=>?_;obtain⟨hp,I⟩:=Room.open I;refine RN 5 E I λa E=>?_;refine SS E (ae E (I.bz (Uu hi hk))) λa E=>?_;refine RT 2 E I ?_;exact⟨rfl,(Room.close (n:=_) I rfl hp)⟩
theorem D3 {k:Nat}{v:Int}(I:U W w (Room q b ps::L))(hi:i<ps.length)(hr:ps[i].refs=1)(hk:k<8) :
   Calls prog 128 #[pt q,.int .i64 ((i:Int)+1),.int .i64 k,.int .i32 v] w λe V=>e=.returned (.bool true)∧U W V (Room q b (ps.set i ⟨λj=>if j=k then v else ps[i].g j,1⟩)::L):=by
 refine EN func128 ntmps128 rfl rfl λa E=>?_;refine CL 5 E I (s0 I hi (by omega)) λa w E I=>?_;refine RN 6 E I λa E=>?_;replace E:=E.aK 15;refine RN 4 E I λa E=>?_;rw[bn (by omega)]at E;refine RN 4 E I λa E=>?_;obtain⟨hp,I⟩:=Room.open I;rw[bn (by omega)]at E;refine RN 3 E I λa E=>?_;refine bu E (cu E rfl (s:=23)) (ae E (I.bz (sZ hi))) rfl λa E=>?_;refine RN 2 E I λa E=>?_;rw[bn (by omega)]at E;refine ST 8 E I (λa w E I=>?_) (hlt:=(by rw[wj];omega));rw[Uv hi hk,hr]at I;refine RT 2 E I ?_;exact⟨rfl,(Room.close (n:=ps.length) I bt (yj hp (by omega)))⟩
def uC (ps:List Pg)(i:Nat):Prop:=∃ h:i<ps.length,ps[i].refs=0∧∀ j,(hj:j<i)→0<ps[j].refs
def Az (ps:List Pg):Prop:=∀ j,(h:j<ps.length)→0<ps[j].refs
theorem D4 (ps:List Pg):Az ps∨∃ i,uC ps i:=by
 have aux:∀ n,(∀ j,(h:j<ps.length)→j<n→0<ps[j].refs)∨∃ i,uC ps i:=by
  intro n
  induction n with
  | zero=>exact .inl λj _ h=>by omega
  | succ n ih =>
   rcases ih with h | h
   ·by_cases hn:n<ps.length
    ·by_cases h0:ps[n].refs=0
     ·exact .inr ⟨n,hn,h0,λj hj=>h j (by omega) hj⟩
     ·refine .inl λj hj qz=>?_;rcases gE j n with h1 | h1
      ·exact h j hj h1
      ·obtain rfl:j=n:=by omega
       omega
    ·exact .inl λj hj qz=>h j hj (by omega)
   ·exact .inr h
 rcases aux ps.length with h | h
 ·exact .inl λj hj=>h j hj hj
 ·exact .inr h
theorem Jj (I:U W w (Room q b ps::L))(hf:uC ps i) :
   Calls prog 126 #[pt q] w λe V=>e=.returned (.tuple #[.int .i64 ((i:Int)+1),.bool true])∧U W V (Room q b (ps.set i pD)::L):=by
 obtain⟨hi,h0,D5⟩:=hf;obtain⟨hp,I⟩:=Room.open I;refine EN func126 ntmps126 rfl rfl λa E=>?_;refine RN 7 E I λa E=>?_;replace E:=E.aK 6;refine RN 9 E I λa E=>?_;refine aQ (λμ a w=>∃ k:Nat,(μ=i-k∧k≤i)∧Fr a 34 [(0,pt q),(11,.int .i64 ps.length),(12,.int .i64 k)]∧U W w (aa q 224 [.slice (some ⟨b,0,none⟩) ps.length ps.length]::aa b 227 (hY ps)::L)) (i) (⟨0,⟨by simp,by simp⟩,E.ab [0,11,12],I.sub⟩) ?_;clear E I;rintro μ a w ⟨k,⟨rfl,hk⟩,E,I⟩;refine RN 3 E I λa E=>?_;rw[dp (by omega)]at E;refine RN 13 E I λa E=>?_;refine SS E (ae E (I.bz (sZ (by omega)))) λa E=>?_;refine IF 1 E I (λay a E=>?_) λay a E=>?_
 ·
  obtain rfl : k = i := by
      rcases gE k i with h | h
      ·have:=D5 k h;omega
      ·omega
  refine RN 8 E I λa E=>?_;refine rj E rfl I Ty.t227 (by simp[Value.oneCell']) (by rw[wj];simp;omega) λa w E I=>?_;replace I:=I.jV b;change U W w (aa b 227 (cD (hY ps) (k*9) pD.cells)::_) at I;rw[Uw pD hi]at I;refine RT 5 E I ?_;exact⟨rfl,(Room.close (n:=ps.length) I bt (yj (g:=λ_=>0) (r:=1) hp (by omega)))⟩
 have IM : k < i := by
     rcases gE k i with h | h
     ·exact h
     ·obtain rfl:k=i:=by omega
      omega
 refine RN 2 E I λa E=>?_;exact⟨i-(k+1),by omega,k+1,⟨rfl,by omega⟩,E.ab [0,11,12],I.sub⟩
theorem UE (I:U W w (Room q b ps::L))(hf:Az ps) :
   Calls prog 126 #[pt q] w λe V=>e=.returned (.tuple #[.int .i64 0,.bool false])∧U W V (Room q b ps::L):=by
 obtain⟨hp,I⟩:=Room.open I;refine EN func126 ntmps126 rfl rfl λa E=>?_;refine RN 7 E I λa E=>?_;replace E:=E.aK 6;refine RN 9 E I λa E=>?_;refine aQ (λμ a w=>∃ k:Nat,(μ=ps.length-k∧k≤ps.length)∧Fr a 34 [(0,pt q),(11,.int .i64 ps.length),(12,.int .i64 k)]∧U W w (aa q 224 [.slice (some ⟨b,0,none⟩) ps.length ps.length]::aa b 227 (hY ps)::L)) (ps.length) (⟨0,⟨by simp,by simp⟩,E.ab [0,11,12],I.sub⟩) ?_;clear E I;rintro μ a w ⟨k,⟨rfl,hk⟩,E,I⟩;refine IF 3 E I (λao a E=>?_) λao a E=>?_
 ·
  refine RN 12 E I λa E=>?_;have ca:=hf k (by omega);refine SS E (ae E (I.bz (sZ (by omega)))) λa E=>?_;refine RN 1 E I λa E=>?_;rw[bn (by omega)]at E;refine RN 3 E I λa E=>?_;exact⟨ps.length-(k+1),by omega,k+1,⟨rfl,by omega⟩,E.ab [0,11,12],I.sub⟩
 refine RT 3 E I ?_;exact⟨rfl,(Room.close (n:=_) I rfl hp)⟩
theorem UF (I:U W w (Room q b ps::L))(hi:i<ps.length)(hr:0<ps[i].refs)(hf:Az ps) :
   Calls prog 347 #[pt q,.int .i64 ((i:Int)+1)] w λe V=>e=.returned (.tuple #[.int .i64 0,.bool false])∧U W V (Room q b ps::L):=by
 refine EN func347 ntmps347 rfl rfl λa E=>?_;refine CL 6 E I (s0 I hi hr) λa w E I=>?_;refine RN 5 E I λa E=>?_;replace E:=E.aK 13;refine CL 3 E I (UE I hf) λa w E I=>?_;refine RN 8 E I λa E=>?_;replace E:=E.aK 19;refine RT 6 E I ?_;exact⟨rfl,I⟩
theorem UG {k:Nat}(I:U W w (Room q b ps::L))(hi:i<ps.length)(hr:0<ps[i].refs)(hf:uC ps k) :
   Calls prog 347 #[pt q,.int .i64 ((i:Int)+1)] w λe V=>e=.returned (.tuple #[.int .i64 ((k:Int)+1),.bool true])∧U W V (Room q b (ps.set k ⟨ps[i].g,1⟩)::L):=by
 have hk:=hf.1;have bT:k≠i:=by
  rintro rfl;obtain⟨_,h,_⟩:=hf;omega
 have dS:k<(ps.set k pD).length:=by rw[bt];exact hk
 have aF:i<(ps.set k pD).length:=by rw[bt];exact hi
 have e1:(ps.set k pD)[k]=pD:=by rw[ou]
 have e2:(ps.set k pD)[i]=ps[i]:=by rw[List.getElem_set_ne bT]
 refine EN func347 ntmps347 rfl rfl λa E=>?_;refine CL 6 E I (s0 I hi hr) λa w E I=>?_;refine RN 5 E I λa E=>?_;replace E:=E.aK 13;refine CL 3 E I (Jj I hf) λa w E I=>?_;refine RN 8 E I λa E=>?_;replace E:=E.eG 19;refine a1 1 (λw0 V=>Rd V b (i*9) (ints .i32 8 ps[i].g)) [2] [0,1,3,4,5,3006,1002,7,8,1009] E I λa w E I hH=>?_
 have hC : Rd w b (i * 9) (ints .i32 8 ps[i].g) := by
     have:=U.Jh (b:=b) (e:=227) (Room.open I).2 aF
     rwa [e2]at this
 refine RH 5 E I hH hC λa E=>?_;refine QH E (λw hc=>bQ E underlying225 rfl Ty.t225 (hc)) hC λa E=>?_;refine RH 0 E I hH hC λa E=>?_;refine CL 0 E I (s0 I dS (by rw[e1];decide)) λa w E I=>?_
 replace hC : (fun V => Rd V b (i * 9) (ints .i32 8 ps[i].g)) w := by
     have:=U.Jh (b:=b) (e:=227) (Room.open I).2 aF
     rwa [e2]at this
 refine RH 2 E I hH hC λa E=>?_;obtain⟨hp,I⟩:=Room.open I;refine rj E rfl I Ty.t225 uy (by rw[wj,di];omega) λa w E I=>?_;rw[Uy dS,set_set,e1,show pD.refs=1 from rfl]at I;refine RT 5 E I ?_;exact⟨rfl,(Room.close (n:=(ps.set k pD).length) I (by rw[bt,bt]) (by have:=yj (g:=ps[i].g) (r:=1) (i:=k) hp (by decide);rwa [set_set]at this))⟩
def j3 (ps:List Pg):Nat:=ps.countP λp=>decide (0<p.refs)
theorem wk (ps:List Pg):j3 ps≤ps.length:=List.countP_le_length
theorem UH {ps:List Pg}{k:Nat}(h:k<ps.length):j3 (ps.take (k+1))=j3 (ps.take k)+if 0<ps[k].refs then 1 else 0:=by
 rw[j3,jv h,List.countP_append,j3,List.countP_singleton];by_cases h:0<ps[k].refs <;> simp[h]
theorem Jk (I:U W w (Room q b ps::L)) :
   Calls prog 84 #[pt q] w λe V=>e=.returned (.int .i64 (j3 ps))∧U W V (Room q b ps::L):=by
 obtain⟨hp,I⟩:=Room.open I;refine EN func84 ntmps84 rfl rfl λa E=>?_;refine RN 6 E I λa E=>?_;replace E:=E.aK 7;refine RN 11 E I λa E=>?_;refine aQ (λμ a w=>∃ k:Nat,(μ=ps.length-k∧k≤ps.length)∧Fr a 24 [(3,.int .i64 (j3 (ps.take k))),(11,.slice (some ⟨b,0,none⟩) ps.length ps.length),(12,.int .i64 ps.length),(13,.int .i64 k)]∧U W w (aa q 224 [.slice (some ⟨b,0,none⟩) ps.length ps.length]::aa b 227 (hY ps)::L)) (ps.length) (⟨0,⟨by simp,by simp⟩,E.ab [3,11,12,13],I.sub⟩) ?_;clear E I;rintro μ a w ⟨k,⟨rfl,hk⟩,E,I⟩;have rE:=wk (ps.take k);rw[dH]at rE;refine IF 3 E I (λao a E=>?_) λao a E=>?_
 ·
  have mC:k<ps.length:=by omega
  have AA:=UH mC;refine RN 3 E I λa E=>?_;refine SS E (bQ E underlying227 rfl Ty.t227 (I.UB mC)) λa E=>?_;refine AL 0 E I λb5 a w E I=>?_;refine RN 0 E I λa E=>?_;refine rj E rfl I Ty.t227 (Pg.one _) (by rw[Pg.len];exact bh _) λa w E I=>?_;rw[show cD _ 0 ps[k].cells=ps[k].cells from by simp[cD,Pg.len]]at I;refine RN 2 E I λa E=>?_;refine SS E (ae E (I.bz (show ps[k].cells[8]?=some (.int .i64 ps[k].refs) from by simp[Pg.cells,di]))) λa E=>?_;refine IF 1 E I (λay a E=>?_) λay a E=>?_
  ·
   rw[ak (by omega)]at AA;refine RN 5 E I λa E=>?_;exact⟨ps.length-(k+1),by omega,k+1,⟨rfl,by omega⟩,by rw[AA];exact E.ab [3,11,12,13],I.sub⟩
  rw[ag (by omega)]at AA;refine RN 2 E I λa E=>?_;exact⟨ps.length-(k+1),by omega,k+1,⟨rfl,by omega⟩,by rw[AA];exact E.ab [3,11,12,13],I.sub⟩
 refine RT 3 E I ?_;obtain rfl:k=ps.length:=by omega
 rw[k0];exact⟨rfl,(Room.close (n:=_) I rfl hp)⟩
theorem UI (I:U W w (Room q b ps::L)) :
   Calls prog 166 #[pt q] w λe V=>e=.returned (.int .i64 ((ps.length-j3 ps:Nat):Int))∧U W V (Room q b ps::L):=by
 have rE:=wk ps;have hp:=(Room.open I).1;refine EN func166 ntmps166 rfl rfl λa E=>?_;refine RN 6 E I λa E=>?_;replace E:=E.aK 4;refine a1 2 (λw0 V=>V.cell? ⟨q,0,none⟩=some (.slice (some ⟨b,0,none⟩) ps.length ps.length)) [6] [0,1,2,5,3003,4,1006,7,8] E I λa w E I hH=>?_;have hC:=hH.at w ((Room.open I).2.bz rfl);refine RH 4 E I hH hC λa E=>?_;refine QH E (λw hc=>ae E (hc)) hC λa E=>?_;refine RH 1 E I hH hC λa E=>?_;refine CL 0 E I (Jk I) λa w E I=>?_;replace hC:=hH.at w ((Room.open I).2.bz rfl);refine RH 2 E I hH hC λa E=>?_;refine RT 0 E I ?_;exact⟨by rw[show ((ps.length-j3 ps:Nat):Int)=(ps.length:Int)-(j3 ps:Int) from by omega],I⟩
end
end
section
def l4 (es:Array MapEntry)(clock:Nat)(kvs:List (Int×Value)):Prop :=
 es.toList.map (λe=>(e.key,e.val))=kvs.map (λp=>(Value.int .i64 p.1,p.2))∧MapKept.Stamped es clock∧∀ p∈kvs,(Lit.int .i64 p.1).wf=true
def mp (b:Nat)(kvs:List (Int×Value)):SP:=λh=>∃ es clock,h b=some (.map es clock)∧l4 es clock kvs
def m7:List (Int×Value)→Int→Nat→Option (Nat×Value)
 | [],_,_=>none
 | p::r,k,i=>if p.1=k then some (i,p.2) else m7 r k (i+1)
theorem Jl {kvs:List (Int×Value)}{k:Int}(h:∀ p∈kvs,p.1≠k):∀ i,m7 kvs k i=none:=by
 induction kvs with
 | nil=>intro i;rfl
 | cons p r ih =>
  intro i;rw[m7,ag (h p jo)];exact ih (λq hq=>h q (gU _ hq)) _
theorem UJ {kvs:List (Int×Value)}{k:Int}{v:Value}:∀ {j:Nat} (i:Nat),kvs[j]?=some (k,v)→(∀ j',j'<j→∀ p,kvs[j']?=some p→p.1≠k)→m7 kvs k i=some (i+j,v):=by
 induction kvs with
 | nil=>intro j i h;simp at h
 | cons p r ih =>
  intro j i h hl;cases j with
  | zero=>simp at h;subst h;simp[m7]
  | succ j =>
   rw[m7,ag (hl 0 (by omega) p rfl),ih (i+1) (by simpa using h) (λj' hj q hq=>hl (j'+1) (by omega) q (by simpa using hq))];rw[show i+1+j=i+(j+1) from by omega]
theorem Jm (k:Int):∀ (es:List MapEntry) (kvs:List (Int×Value)) (i:Nat),es.map (λe=>(e.key,e.val))=kvs.map (λp=>(Value.int .i64 p.1,p.2))→Instr.findNow (.int .i64) (.int .i64 k) es i=some (m7 kvs k i)
 | [],[],i,_=>rfl
 | [],_::_,_,h=>by simp at h
 | _::_,[],_,h=>by simp at h
 | e::es,p::kvs,i,h=>by
  simp only[map_cons,List.cons.injEq,Prod.mk.injEq]at h;obtain⟨⟨h1,h2⟩,h3⟩:=h;simp only[Instr.findNow,h1,Instr.sameNow,m7];by_cases hk:p.1=k
  ·simp[hk,h2]
  ·have:(k==p.1)=false:=by simp;exact λe=>hk e.symm
   simp only[this,ag hk];exact Jm k es kvs (i+1) h3
theorem yk {α β:Type}(f:α→β)(l:List α)(i:Nat):(l.eraseIdx i).map f=(l.map f).eraseIdx i:=by
 simp only[sR,cS,map_take,map_drop]
section
variable {W w:World}{L:List SP}{b:Nat}{kvs:List (Int×Value)}
theorem U.AB (I:U W w (mp b kvs::L)):∃ es clock,l4 es clock kvs∧U W w (kV b (.map es clock)::L):=by
 obtain⟨⟨es,clock⟩,h1,h2⟩:=I.jL (ι:=Array MapEntry×Nat) (p:=λi=>l4 i.1 i.2 kvs) (B:=λi=>kV b (.map i.1 i.2)) (λh ⟨es,clock,h1,h2⟩=>⟨(es,clock),h2,h1⟩);exact⟨es,clock,h1,h2⟩
theorem U.D6 {es:Array MapEntry}{clock:Nat}(I:U W w (kV b (.map es clock)::L))(h:l4 es clock kvs):U W w (mp b kvs::L) :=
 U.shut (M:=[_]) I (λ_ x=>by
  obtain⟨_,_,_,a,_,y,_⟩:=x;exact⟨es,clock,a _ _ y,h⟩)
theorem l4.nil:l4 #[] 0 []:=⟨rfl,⟨by simp,by simp,by simp⟩,by simp⟩
theorem l4.push {es:Array MapEntry}{clock:Nat}{k:Int}{v:Value}(h:l4 es clock kvs)(hw:(Lit.int .i64 k).wf=true)(hn:∀ p∈kvs,p.1≠k):l4 (es.push ⟨.int .i64 k,v,clock⟩) (clock+1) (kvs++[(k,v)]):=by
 obtain⟨h1,⟨h2,h3,h4⟩,h5⟩:=h;refine⟨by simp[h1],⟨λx hx=>?_,?_,?_⟩,λp hp=>?_⟩
 ·simp only[Array.toList_push,eX,iF]at hx;rcases hx with hx | rfl
  ·have:=h2 x hx;omega
  ·exact Nat.lt_succ_self _
 ·simp only[Array.toList_push,cS,map_cons,map_nil];refine List.nodup_append.2 ⟨h3,by simp,λx hx y hy=>?_⟩;simp only[cV]at hx;obtain⟨e,he,rfl⟩:=hx;have:=h2 e he;simp at hy;omega
 ·simp only[Array.toList_push,cS,map_cons,map_nil];refine List.nodup_append.2 ⟨h4,by simp,λx hx y hy=>?_⟩;simp only[cV]at hx;obtain⟨e,he,rfl⟩:=hx;have hm:(e.key,e.val)∈es.toList.map (λe=>(e.key,e.val)):=cV.2 ⟨e,he,rfl⟩;rw[h1]at hm;obtain⟨p,hp,pE⟩:=cV.1 hm;simp only[Prod.mk.injEq]at pE;simp at hy;rw[hy,← pE.1];intro e2;simp at e2;exact hn p hp e2
 ·rcases eX.1 hp with h | h
  ·exact h5 p h
  ·simp at h;subst h;exact hw
theorem l4.erase {es:Array MapEntry}{clock:Nat}(h:l4 es clock kvs)(i:Nat):l4 (es.eraseIdxIfInBounds i) clock (kvs.eraseIdx i):=by
 obtain⟨h1,⟨h2,h3,h4⟩,h5⟩:=h;have ht:(es.eraseIdxIfInBounds i).toList=es.toList.eraseIdx i:=by simp[Array.toList_eraseIdxIfInBounds]
 have hm:∀ {β:Type} (f:MapEntry→β),(es.toList.eraseIdx i).map f=(es.toList.map f).eraseIdx i:=λf=>yk f _ i;refine⟨by rw[ht,hm,h1,yk],⟨λx hx=>h2 x (mem_of_mem_eraseIdx (ht ▸ hx)),?_,?_⟩,λp hp=>h5 p (mem_of_mem_eraseIdx hp)⟩
 ·rw[ht,hm];exact h3.sublist (List.eraseIdx_sublist _ _)
 ·rw[ht,hm];exact h4.sublist (List.eraseIdx_sublist _ _)
end
section
variable {P:Program}{ops:Array Oper}{Q:Exit→Act→World→Prop}{a:Act}{w V W:World}{K:Act→World→Prop}{n d:Nat}{l:List (Nat×Value)}{v:Value}{L R:List SP}{kvs:List (Int×Value)}
class s4 (L:List SP)(b:Nat)(kvs:outParam (List (Int×Value)))(R:outParam (List SP)):Prop where perm:L.Perm (mp b kvs::R)
instance s4.head {L b kvs}:s4 (mp b kvs::L) b kvs L:=⟨lA _⟩
instance (priority:=low) s4.tail {A L b kvs R}[h:s4 L b kvs R]:s4 (A::L) b kvs (A::R):=⟨(kq A h.perm).trans (cW _ _ _)⟩
theorem Jn {b:Nat}{es Jo:Array MapEntry}{c c':Nat}(h:w.heap[b]?=some (.map es c)):(setObj b (.map Jo c')).run P w=.ok () (ChangeMaps.setBlock w b (.map Jo c')):=by
 simp only[setObj,Sem.run,h];rfl
theorem UK {kt:TypeId}{em:Bool}{k:Int}(hk:P.underlying kt=some (.int .i64))(n:Nat):(Instr.checkKey em (n+1) kt (.int .i64 k)).run P w=.ok () w:=by
 simp only[Instr.checkKey,Sem.run_bind,eW hk,Result.andThen_ok];rfl
theorem D7 {kt:TypeId}{em:Bool}{k:Int}(hk:P.underlying kt=some (.int .i64)):(Instr.checkKey em 10000 kt (.int .i64 k)).run P w=.ok () w :=
 UK hk 9999
theorem D8 {es:Array MapEntry}{clock:Nat}{kt:TypeId}{k:Int}(hk:P.underlying kt=some (.int .i64))(h:l4 es clock kvs):(Instr.findKey kt (.int .i64 k) es.toList).run P w=.ok (m7 kvs k 0) w:=by
 simp[Instr.findKey,eW hk,Jm k es.toList kvs 0 h.1]
theorem UL {t ty ps af g}(E:Fr a n l)(hw:Region.wanted ⟨some d,.makeMap t none,ty,ps,af,g⟩ (yielded ops a.tmps)=true)(I:U W w L)(hf:okB d n l=true)
   (h:∀ b a' V,Fr a' n ((d,.map (some b))::l)→U W V (mp b []::L)→Old w V→K a' V):cH P ops Q ⟨some d,.makeMap t none,ty,ps,af,g⟩ K a w:=by
 refine bu (v:=.map (some w.heap.size)) (V:=w.alloc (.map #[] 0)) E hw ?_ hf (λa' de=>h _ _ _ de (U.D6 (I.alloc (.map #[] 0)) l4.nil) (Old.alloc _ _));simp[execOp,Instr.makeMap,newObj,Sem.run]
theorem Jp {x y b t kt s5 k z sz a6 dst ty ps af g}{R:List SP}(E:Fr a n l)(ht:P.underlying t=some (.map kt s5))(hk:P.underlying kt=some (.int .i64))(hi:TI P s5 z sz a6)(I:U W w L)
   [ev:Ev l x (.map (some b))] [gD:Ev l y (.int .i64 k)] [pk:s4 L b kvs R] (hv:((m7 kvs k 0).map (·.2)).getD z=v) :
   (execOp a.eval ⟨dst,.lookup t x y false,ty,ps,af,g⟩).run P w=.ok (.value v) w:=by
 obtain⟨es,clock,h1,h2⟩:=(I.perm pk.perm).AB;have hg:=MapKept.run_getObj_map (P:=P) h2.has.2;have h3:(Instr.lookup t (.map (some b)) (.int .i64 k) false).run P w=.ok v w:=by
  simp only[Instr.lookup,Sem.run_bind,eW ht,Result.andThen_ok,hg];simp only[Sem.run_pure,Result.andThen_ok,D7 hk,D8 hk h1];cases hf:m7 kvs k 0 with
  | none=>rw[hf]at hv;simp at hv;simp[uk hi,hv]
  | some p=>rw[hf]at hv;simp at hv;simp[hv]
 simp[execOp,ev.ev a n E,gD.ev a n E,h3]
theorem UM {x y u b t kt s5 k ty ps af g}{R:List SP}(E:Fr a n l)(hw:Region.wanted ⟨none,.mapUpdate t x y u,ty,ps,af,g⟩ (yielded ops a.tmps)=true)(I:U W w L)
   (ht:P.underlying t=some (.map kt s5)) (hk:P.underlying kt=some (.int .i64)) [ev:Ev l x (.map (some b))] [gD:Ev l y (.int .i64 k)] [uo:Ev l u v] [pk:s4 L b kvs R]
   (AD:(Lit.int .i64 k).wf=true) (hn:∀ p∈kvs,p.1≠k)
   (h:∀ a' V,Fr a' n l→U W V (mp b (kvs++[(k,v)])::R)→K a' V):cH P ops Q ⟨none,.mapUpdate t x y u,ty,ps,af,g⟩ K a w:=by
 obtain⟨es,clock,h1,h2⟩:=(I.perm pk.perm).AB;have hg:=MapKept.run_getObj_map (P:=P) h2.has.2;have hb:b<w.heap.size:=(rf.1 h2.has.2).1;have h3:(Instr.mapUpdate t (.map (some b)) (.int .i64 k) v).run P w=.ok () (ChangeMaps.setBlock w b (.map (es.push ⟨.int .i64 k,v,clock⟩) (clock+1))):=by
  simp only[Instr.mapUpdate,Sem.run_bind,eW ht,Result.andThen_ok,hg];simp only[Sem.run_pure,Result.andThen_ok,D7 hk,D8 hk h1,Jl hn];simp[Jn h2.has.2]
 have h4:=h2.ck (o':=.map (es.push ⟨.int .i64 k,v,clock⟩) (clock+1)) (V:=ChangeMaps.setBlock w b (.map (es.push ⟨.int .i64 k,v,clock⟩) (clock+1))) rfl rfl rfl rfl;refine Dt (V:=ChangeMaps.setBlock w b (.map (es.push ⟨.int .i64 k,v,clock⟩) (clock+1))) E hw ?_ (λa' de=>h a' _ de (h4.D6 (h1.push AD hn)));simp[execOp,ev.ev a n E,gD.ev a n E,uo.ev a n E,h3]
theorem UN {x y b t kt s5 k i ty ps af g}{R:List SP}(E:Fr a n l)(hw:Region.wanted ⟨none,.call ⟨.builtin .delete,#[x,y],#[t,kt]⟩,ty,ps,af,g⟩ (yielded ops a.tmps)=true)(I:U W w L)
   (ht:P.underlying t=some (.map kt s5)) (hk:P.underlying kt=some (.int .i64)) [ev:Ev l x (.map (some b))] [gD:Ev l y (.int .i64 k)] [pk:s4 L b kvs R] (hi:m7 kvs k 0=some (i,v))
   (h:∀ a' V,Fr a' n l→U W V (mp b (kvs.eraseIdx i)::R)→K a' V):cH P ops Q ⟨none,.call ⟨.builtin .delete,#[x,y],#[t,kt]⟩,ty,ps,af,g⟩ K a w:=by
 obtain⟨es,clock,h1,h2⟩:=(I.perm pk.perm).AB;have hg:=MapKept.run_getObj_map (P:=P) h2.has.2;have hb:b<w.heap.size:=(rf.1 h2.has.2).1;have h3:(Builtin.delete_ #[t,kt] ty #[.map (some b),.int .i64 k]).run P w=.ok (.tuple #[]) (ChangeMaps.setBlock w b (.map (es.eraseIdxIfInBounds i) clock)):=by
  simp only[Builtin.delete_,getElem?_toArray,List.getElem?_cons_zero,getElem?_cons_succ];simp only[Sem.run_bind,eW ht,Result.andThen_ok,hg];simp only[Sem.run_pure,Result.andThen_ok,D7 hk,D8 hk h1,hi];simp[Jn h2.has.2]
 have h4:=h2.ck (o':=.map (es.eraseIdxIfInBounds i) clock) (V:=ChangeMaps.setBlock w b (.map (es.eraseIdxIfInBounds i) clock)) rfl rfl rfl rfl;refine Ds (v:=.tuple #[]) (V:=ChangeMaps.setBlock w b (.map (es.eraseIdxIfInBounds i) clock)) E hw ?_ (λa' de=>h a' _ de (h4.D6 (h1.erase i)));simp[execOp,resolve,ev.ev a n E,gD.ev a n E,invoke,builtin,h3]
end
end
section
open Go.RowKit Go.Maps Go.Sort Go.Shelf
def Lay.Jq:Go.Shelf.Ren:=⟨fun | 7=>119 | 10=>164 | n=>n,fun | 23=>218 | 26=>166 | 3=>219 | 28=>216 | 0=>0 | 27=>215 | 33=>284 | 4=>4 | n=>n,fun | n=>n⟩
theorem Lay.Jr:Go.Proofs.SlLaysZI.n7 prog Lay.Jq:={
 mixed:=by kernel_rfl
 f7:=⟨f119.name,by decide,func119.trans (dG some (by kernel_rfl))⟩
 f10:=⟨f164.name,by decide,func164.trans (dG some (by kernel_rfl))⟩
 t0:=underlying0
 a0:=isAgg0
 z0:=sizeOf0
 v0:=zeroValue0
 t4:=underlying4
 a4:=isAgg4
 z4:=sizeOf4
 v4:=zeroValue4
 t23:=underlying218
 a23:=isAgg218
 z23:=sizeOf218
 v23:=zeroValue218
 t26:=underlying166
 a26:=isAgg166
 z26:=sizeOf166
 v26:=zeroValue166
 t27:=underlying215
 a27:=isAgg215
 z27:=sizeOf215
 v27:=zeroValue215
 t28:=underlying216
 a28:=isAgg216
 z28:=sizeOf216
 v28:=zeroValue216
 t33:=underlying284
 a33:=isAgg284
 z33:=sizeOf284
 v33:=zeroValue284 }
def Lay.Jt:Go.Shelf.Ren:=⟨fun | 6=>118 | 8=>162 | 9=>163 | 11=>194 | 13=>196 | 12=>195 | 23=>226 | 24=>227 | 14=>217 | 15=>218 | 16=>219 | 17=>220 | 18=>221 | 19=>222 | 20=>223 | 21=>224 | 22=>225 | 25=>233 | 26=>234 | 27=>235 | 28=>236 | 29=>237 | 30=>238 | 31=>243 | n=>n,fun | 26=>166 | 28=>216 | 24=>160 | 0=>0 | 3=>3 | 37=>314 | 48=>100 | 50=>319 | 4=>4 | 40=>352 | 39=>351 | 45=>248 | 5=>5 | 9=>9 | 51=>366 | 55=>370 | 57=>375 | 58=>376 | 33=>284 | n=>n,fun | n=>n⟩
theorem Lay.UO:Go.Proofs.SlLaysZI.n6 prog Lay.Jt:={
 mixed:=by kernel_rfl
 f6:=⟨f118.name,by decide,func118.trans (dG some (by kernel_rfl))⟩
 f8:=⟨f162.name,by decide,func162.trans (dG some (by kernel_rfl))⟩
 f11:=⟨f194.name,by decide,func194.trans (dG some (by kernel_rfl))⟩
 t0:=underlying0
 a0:=isAgg0
 z0:=sizeOf0
 v0:=zeroValue0
 t24:=underlying160
 a24:=isAgg160
 z24:=sizeOf160
 v24:=zeroValue160
 t26:=underlying166
 a26:=isAgg166
 z26:=sizeOf166
 v26:=zeroValue166
 t28:=underlying216
 a28:=isAgg216
 z28:=sizeOf216
 v28:=zeroValue216
 i26:=by kernel_rfl }
def Lay.UP:Go.Shelf.Ren:=⟨fun | 5=>163 | 8=>196 | 7=>195 | 19=>226 | 20=>227 | 10=>217 | 11=>218 | 12=>219 | 13=>220 | 14=>221 | 15=>222 | 16=>223 | 17=>224 | 18=>225 | 30=>233 | 31=>234 | 32=>235 | 33=>236 | 34=>237 | 35=>238 | 40=>243 | n=>n,fun | 23=>160 | 25=>166 | 3=>3 | 32=>314 | 22=>160 | 0=>0 | 44=>100 | 46=>319 | 4=>4 | 36=>352 | 35=>351 | 41=>248 | 5=>5 | 9=>9 | 53=>366 | 57=>370 | 63=>375 | 64=>376 | n=>n,fun | n=>n⟩
theorem Lay.Ju:Go.Proofs.SlLaysM.n5 prog Lay.UP:={
 mixed:=by kernel_rfl
 f5:=⟨f163.name,by decide,func163.trans (dG some (by kernel_rfl))⟩
 f7:=⟨f195.name,by decide,func195.trans (dG some (by kernel_rfl))⟩
 f8:=func196.trans (dG some (by kernel_rfl))
 f10:=⟨f217.name,by decide,func217.trans (dG some (by kernel_rfl))⟩
 f11:=⟨f218.name,by decide,func218.trans (dG some (by kernel_rfl))⟩
 f12:=⟨f219.name,by decide,func219.trans (dG some (by kernel_rfl))⟩
 f13:=⟨f220.name,by decide,func220.trans (dG some (by kernel_rfl))⟩
 f14:=⟨f221.name,by decide,func221.trans (dG some (by kernel_rfl))⟩
 f15:=⟨f222.name,by decide,func222.trans (dG some (by kernel_rfl))⟩
 f16:=⟨f223.name,by decide,func223.trans (dG some (by kernel_rfl))⟩
 f17:=⟨f224.name,by decide,func224.trans (dG some (by kernel_rfl))⟩
 f18:=⟨f225.name,by decide,func225.trans (dG some (by kernel_rfl))⟩
 f19:=func226.trans (dG some (by kernel_rfl))
 f20:=func227.trans (dG some (by kernel_rfl))
 f30:=⟨f233.name,by decide,func233.trans (dG some (by kernel_rfl))⟩
 f31:=func234.trans (dG some (by kernel_rfl))
 f32:=func235.trans (dG some (by kernel_rfl))
 f33:=⟨f236.name,by decide,func236.trans (dG some (by kernel_rfl))⟩
 f34:=⟨f237.name,by decide,func237.trans (dG some (by kernel_rfl))⟩
 f35:=⟨f238.name,by decide,func238.trans (dG some (by kernel_rfl))⟩
 f40:=⟨f243.name,by decide,func243.trans (dG some (by kernel_rfl))⟩
 t0:=underlying0
 a0:=isAgg0
 z0:=sizeOf0
 v0:=zeroValue0
 t3:=underlying3
 a3:=isAgg3
 z3:=sizeOf3
 v3:=zeroValue3
 t4:=underlying4
 a4:=isAgg4
 z4:=sizeOf4
 v4:=zeroValue4
 t5:=underlying5
 a5:=isAgg5
 z5:=sizeOf5
 v5:=zeroValue5
 t9:=underlying9
 a9:=isAgg9
 z9:=sizeOf9
 v9:=zeroValue9
 t22:=underlying160
 a22:=isAgg160
 z22:=sizeOf160
 v22:=zeroValue160
 t23:=underlying160
 a23:=isAgg160
 z23:=sizeOf160
 v23:=zeroValue160
 t25:=underlying166
 a25:=isAgg166
 z25:=sizeOf166
 v25:=zeroValue166
 t32:=underlying314
 a32:=isAgg314
 z32:=sizeOf314
 v32:=zeroValue314
 t35:=underlying351
 a35:=isAgg351
 z35:=sizeOf351
 v35:=zeroValue351
 t36:=underlying352
 a36:=isAgg352
 z36:=sizeOf352
 v36:=zeroValue352
 t41:=underlying248
 a41:=isAgg248
 z41:=sizeOf248
 v41:=zeroValue248
 t44:=underlying100
 a44:=isAgg100
 z44:=sizeOf100
 v44:=zeroValue100
 t46:=underlying319
 a46:=isAgg319
 z46:=sizeOf319
 v46:=zeroValue319
 t53:=underlying366
 a53:=isAgg366
 z53:=sizeOf366
 v53:=zeroValue366
 t57:=underlying370
 a57:=isAgg370
 z57:=sizeOf370
 v57:=zeroValue370
 t63:=underlying375
 a63:=isAgg375
 z63:=sizeOf375
 v63:=zeroValue375
 t64:=underlying376
 a64:=isAgg376
 z64:=sizeOf376
 v64:=zeroValue376 }
theorem Lay.UQ (m:Nat):AnyZI.SortsIn prog Lay.Jt Fence.wide m :=
 ⟨λaa off cap ss W hH UR aE=>callsIn_wide.2 (AnyM.slices_Sort_int Lay.Ju aa off cap ss W hH UR aE),
  λp cap W=>callsIn_wide.2 (AnyM.slices_Sort_int_none Lay.Ju p cap W)⟩
def nP:Value→Option (DataW Unit×List MemPlace):=λ_=>some (.lit (.bool true),[])
theorem US {es:Array MapEntry}{clock:Nat}{kvs:List (Int×Value)}(h:l4 es clock kvs)(hl:kvs.length≤maxLen):WideElems.Fit prog 166 nP es clock:=by
 obtain⟨h1,h2,h3⟩:=h;have hlen:es.size=kvs.length:=by have:=dG List.length h1;simpa using this
 refine⟨by omega,h2,λx hx=>?_⟩;have hm:(x.key,x.val)∈es.toList.map (λe=>(e.key,e.val)):=cV.2 ⟨x,hx,rfl⟩;rw[h1]at hm;obtain⟨p,hp,pE⟩:=cV.1 hm;simp only[Prod.mk.injEq]at pE;refine⟨(.int .i64 p.1,.lit (.bool true)),?_⟩;simp[WideElems.rd,← pE.1,keyOf_int_mk underlying166 (h3 p hp),nP]
theorem mapKeys {es:Array MapEntry}{clock:Nat}{kvs:List (Int×Value)}(h:l4 es clock kvs):(intKeys (DataW.map ((es.toList.map (WideElems.rg prog 166 nP)).foldr DataW.insert []))).Perm (kvs.map (·.1)):=by
 have hp:=WideShapes.sorted_perm (es.toList.map (WideElems.rg prog 166 nP));have h4:(es.toList.map (WideElems.rg prog 166 nP)).map (λp=>Go.intOf p.1)=kvs.map (·.1):=by
  obtain⟨h1,_,h3⟩:=h
  have : ∀ (l : List MapEntry) (m : List (Int × Value)), l.map (fun e => (e.key, e.val)) = m.map (fun p => (Value.int .i64 p.1, p.2)) → (∀ p ∈ m, (Lit.int .i64 p.1).wf = true) →
      (l.map (WideElems.rg prog 166 nP)).map (λp=>Go.intOf p.1)=m.map (·.1):=by
   intro l
   induction l with
   | nil=>intro m h _;cases m with
    | nil=>rfl
    | cons=>simp at h
   | cons e l ih =>
    intro m h hw;cases m with
    | nil=>simp at h
    | cons p m =>
     simp only[map_cons,List.cons.injEq,Prod.mk.injEq]at h;simp only[map_cons,ih m h.2 (λq hq=>hw q (gU _ hq))];have hr:WideElems.rg prog 166 nP e=(Lit.int .i64 p.1,(DataW.lit (.bool true):DataW Unit)):=by
      simp only[WideElems.rg,WideElems.rd,h.1.1,keyOf_int_mk underlying166 (hw p jo),nP,Option.bind_some,Option.map_some,Option.getD_some]
     rw[hr];rfl
  exact this _ _ h1 h3
 have:=hp.map (λp:Lit×DataW Unit=>Go.intOf p.1);rw[h4]at this;exact this
section
variable {W w:World}{L:List SP}{m:Nat}{kvs:List (Int×Value)}
theorem UT (I:U W w L):Calls prog 119 #[.map (some m)] w λe V =>
   ∃ b,e=.returned (.func (.func 164) #[] #[pt b])∧U W V (aa b 218 [.map (some m)]::L):=by
 have h:=AnyZI.keys_in Lay.Jr Fence.wide 5 trivial rfl (some m) w;refine (callsIn_wide.1 h).mono λe V ⟨h1,h2⟩=>?_;subst h2;exact⟨_,h1,I.alloc _⟩
theorem UU {ss ks:List Int}(hp:ss.Perm ks)(hk:ks.Pairwise (· < ·)):ss.mergeSort (λx y=>decide (x≤y))=ks:=by
 have h1:=List.pairwise_mergeSort (le:=λx y:Int=>decide (x≤y)) (λa b c h1 h2=>by simp at *;omega) (λa b=>by simp;omega) ss;refine List.Perm.eq_of_pairwise (le:=λx y:Int=>decide (x≤y)=true) (λa b _ _ h1 h2=>by simp at *;omega) h1 (hk.imp λh=>by simp;omega) ((List.mergeSort_perm _ _).trans hp)
theorem U.ownsRow {V:World}{e sz:Nat}{v:Value}{n:Nat}{xs:List Value}(I:U W w L)(hb:Below w.heap.size w V)(hr:V.ownsRow w.heap.size e sz v n xs) :
   ∃ ad c,v=.slice ad n c∧U W V (Sl e sz ad n c xs::L):=by
 obtain⟨AE,h,p,q⟩:=I;have hB:Below W.heap.size W V:=AE.trans ⟨hb.os,hb.tape,hb.output,hb.size,λk hk=>hb.block k (Ag hk AE.size)⟩;have Jx:∀ n o,h n=some o→W.heap.size≤n∧V.heap[n]?=some o:=λn o ho=>by
  obtain⟨h1,h2⟩:=p n o ho;refine⟨h1,?_⟩;rw[hb.block n (rf.1 h2).1];exact h2
 have gW:U W V L:=⟨hB,h,Jx,q⟩;obtain⟨hl,hr⟩:=hr;rcases hr with ⟨rfl,hn⟩ | ⟨g,cap,cur,rfl,hg,hc,AF,_,aE,ht⟩
 ·subst hn;refine⟨none,0,rfl,?_⟩;obtain rfl:xs=[]:=hG (by rw[hl,Nat.zero_mul]);exact gW.bR _ _ _
 ·have AG : h g = none := by
   cases he:h g with
   | none=>rfl
   | some x =>
    have:=(rf.1 (p g x he).2).1;omega
  refine⟨some ⟨g,0,none⟩,cap,rfl,?_⟩;have h2:U W V (aa g e ([]++xs++cur.toList.drop (n*sz))::L):=by
   refine⟨hB,λk=>if k=g then some (.cells cur e (0,0)) else h k,λk o ho=>?_,λk=>if k=g then some (.cells cur e (0,0)) else none,h,λk=>?_,λk o ho=>?_,λk o ho=>?_,?_,q⟩
   ·by_cases hk:k=g
    ·simp[hk]at ho;subst ho;subst hk;exact⟨gC AE.size hg,hc⟩
    ·simp[hk]at ho;exact Jx k o ho
   ·by_cases hk:k=g
    ·right;rw[hk];exact AG
    ·left;simp[hk]
   ·by_cases hk:k=g <;> simp[hk]at ho ⊢;exact ho
   ·by_cases hk:k=g
    ·rw[hk,AG]at ho;cases ho
    ·simp[hk,ho]
   ·have : ([] ++ xs ++ cur.toList.drop (n * sz)).toArray = cur := by
     rw[← ht];simp
    simp only[aa,kV,this,if_true]
  have hlen:xs.length+(cur.toList.drop (n*sz)).length=cap*sz:=by
   have:(cur.toList).length=cap*sz:=by simpa using aE
   rw[c4,this,hl];have:=nJ sz AF;omega
  have h3:=U.iY (pre:=[]) (cs:=xs) (n:=n) (c:=cap) (sz:=sz) h2 hl AF (by rw[Nat.sub_mul];omega);simpa using h3
theorem UW {b:Nat}(I:U W w (aa b 218 [.map (some m)]::mp m kvs::L))(hk:(kvs.map (·.1)).Pairwise (· < ·))(hl:kvs.length≤1099511627776) :
   Calls prog 118 #[.func (.func 164) #[] #[pt b]] w λe V =>
   ∃ ad c,e=.returned (.slice ad kvs.length c)∧U W V (Sl 166 1 ad kvs.length c (kvs.map λp=>.int .i64 p.1)::mp m kvs::L):=by
 have cI:=I.tail;obtain⟨es,clock,hm,nQ⟩:=cI.AB;have UX:(1099511627776:Nat)≤maxLen:=by unfold maxLen;omega
 have aE:es.size=kvs.length:=by have:=dG List.length hm.1;simpa using this
 have hF:=US hm (gC hl UX);have AH:w.ownsMap prog 166 nP m es.size (.map ((es.toList.map (WideElems.rg prog 166 nP)).foldr DataW.insert [])):=⟨es,clock,nQ.has.2,hF,bh _,rfl⟩;have hD:Maps.size (DataW.map ((es.toList.map (WideElems.rg prog 166 nP)).foldr DataW.insert []))≤kvs.length:=by rw[← aE];exact AH.size_le
 have kD:w.cell? ⟨b,0,none⟩=some (.map (some m)):=I.cell 0;have hb:b<w.heap.size:=World.block_lt_of_cell? _ _ kD;have UY:SeqGives Fence.wide 2 prog 164 #[pt b] encZ (λss=>ss.Perm (intKeys (DataW.map ((es.toList.map (WideElems.rg prog 166 nP)).foldr DataW.insert [])))) (Maps.size (DataW.map ((es.toList.map (WideElems.rg prog 166 nP)).foldr DataW.insert []))) w :=
  AnyZI.keys_gives (ρ:=Lay.Jq) { Lay.Jr with } Fence.wide _ trivial rfl (by omega) b m _ _ w hb kD AH
 have wm:=AnyZI.sorted_in Lay.UO Fence.wide 5 trivial trivial trivial trivial rfl (by omega) (Lay.UQ _) (enters_of func163 (by kernel_rfl) rfl)
  164 #[pt b] trivial
  (enters_of func164 (by kernel_rfl) rfl) _ _ (by omega) (by omega) _ UY
 refine (callsIn_wide.1 wm).mono λe V ⟨v,ss,h1,h2,h3,_,h5⟩=>?_;subst h1;have hp:=h2.trans (mapKeys hm);rw[UU hp hk]at h3;have hlen:ss.length=kvs.length:=by have:=hp.length_eq;simpa using this
 rw[hlen]at h3;obtain⟨ad,c,rfl,h6⟩:=cI.ownsRow h5 h3;refine⟨ad,c,rfl,?_⟩;have h7:(kvs.map (·.1)).map encZ=kvs.map λp=>Value.int .i64 p.1:=by simp[encZ,Function.comp_def]
 rw[h7]at h6;exact h6
end
end
section
structure aC where
 id:Nat
 refs:Nat
 g:Nat→Int
 p:Nat→Nat
structure Sn where
 last:Nat
 room:Nat
 n:Nat
 av:List aC
def aC.cells (x:aC):List Value:=ints .i64 4 (λk=>(x.p k:Int)+1)++[.int .i64 x.refs]
theorem aC.len (x:aC):x.cells.length=5:=by simp[aC.cells,di]
instance {x:aC}:my x.cells 5:=⟨x.len⟩
theorem aC.at {x:aC}{k:Nat}(h:k<4):x.cells[k]?=some (.int .i64 ((x.p k:Int)+1)):=by
 rw[aC.cells,mv (by rw[di];exact h),fX _ h]
theorem aC.ref {x:aC}:x.cells[4]?=some (.int .i64 x.refs):=by simp[aC.cells,di]
theorem aC.D9 {x:aC}{r:Nat}:x.cells.set 4 (.int .i64 r)=aC.cells { x with refs:=r }:=by
 rw[aC.cells,vU _ _ (by rw[di];exact bh _),di];rfl
theorem aC.UZ {x:aC}{k f:Nat}(h:k<4)(g:Nat→Int):x.cells.set k (.int .i64 ((f:Int)+1))=aC.cells { x with p:=λj=>if j=k then f else x.p j,g:=g }:=by
 rw[aC.cells,uu _ _ (by rw[di];exact h),ints_set,aC.cells]
 congr 1
 refine yd λj _=>?_;by_cases hj:j=k <;> simp[hj]
def ja (x:aC)(p m:Nat):Nat:=(List.range m).countP λk=>decide (x.p k=p)
def hK (x:aC)(p:Nat):Nat:=ja x p 4
def cQ (l:List aC)(p:Nat):Nat:=(l.map λx=>hK x p).sum
def Sn.used (A:Sn):Nat:=(List.range A.room).countP λp=>decide (0<cQ A.av p)
theorem AI (x:aC)(p:Nat):ja x p 0=0:=rfl
theorem k6 (x:aC)(p m:Nat):ja x p (m+1)=ja x p m+if x.p m=p then 1 else 0:=by
 rw[ja,range_succ,List.countP_append,List.countP_singleton,ja];by_cases h:x.p m=p <;> simp[h]
theorem uD (x:aC)(p:Nat):hK x p=(if x.p 0=p then 1 else 0)+(if x.p 1=p then 1 else 0)+(if x.p 2=p then 1 else 0)+(if x.p 3=p then 1 else 0):=by
 rw[hK,k6,k6,k6,k6,AI,ep]
theorem s6 (x:aC)(p:Nat){m n:Nat}(h:m≤n):ja x p m≤ja x p n:=by
 induction n with
 | zero => obtain rfl : m = 0 := by omega
           exact bh _
 | succ n ih =>
  rcases gE n m with h1 | h1
  ·obtain rfl:m=n+1:=by omega
   exact bh _
  ·have:=ih h1;rw[k6];omega
theorem Jy (x:aC)(p:Nat):hK x p≤4:=by have:=List.countP_le_length (p:=λk=>decide (x.p k=p)) (l:=List.range 4);simpa [hK,ja] using this
theorem s7 {x:aC}{k:Nat}(h:k<4):0<hK x (x.p k):=by
 have h1:=s6 x (x.p k) (m:=k+1) (n:=4) (by omega);rw[k6,ak rfl]at h1;show 0<ja x (x.p k) 4;omega
theorem U1 {x:aC}{k k':Nat}(h:k<4)(h':k'<4)(hn:k≠k')(he:x.p k=x.p k'):2≤hK x (x.p k):=by
 rcases Nat.lt_or_gt_of_ne hn with hl | hl
 ·have h1:=s6 x (x.p k) (m:=k'+1) (n:=4) (by omega);have h2:=s6 x (x.p k) (m:=k+1) (n:=k') (by omega);rw[k6,ak he.symm]at h1;rw[k6,ak rfl]at h2;show 2≤ja x (x.p k) 4;omega
 ·have h1:=s6 x (x.p k) (m:=k+1) (n:=4) (by omega);have h2:=s6 x (x.p k) (m:=k'+1) (n:=k) (by omega);rw[k6,ak rfl]at h1;rw[k6,ak he.symm]at h2;show 2≤ja x (x.p k) 4;omega
theorem Ea {x:aC}{p:Nat}(h:∀ k,k<4→x.p k≠p):hK x p=0:=by
 rw[uD,ag (h 0 (by omega)),ag (h 1 (by omega)),ag (h 2 (by omega)),ag (h 3 (by omega))]
theorem Jz {x:aC}{p:Nat}:0<hK x p ↔ ∃ k,k<4∧x.p k=p:=by
 constructor
 ·intro h;by_cases h0:∃ k,k<4∧x.p k=p
  ·exact h0
  ·rw[Ea λk hk e=>h0 ⟨k,hk,e⟩]at h;omega
 ·rintro⟨k,hk,rfl⟩;exact s7 hk
theorem JA {x y:aC}(h:∀ k,k<4→x.p k=y.p k)(p:Nat):hK x p=hK y p:=by
 rw[uD,uD,h 0 (by omega),h 1 (by omega),h 2 (by omega),h 3 (by omega)]
theorem Eb (p:Nat):cQ [] p=0:=rfl
theorem s8 (x:aC)(l:List aC)(p:Nat):cQ (x::l) p=hK x p+cQ l p:=by simp[cQ]
theorem yl (l m:List aC)(p:Nat):cQ (l++m) p=cQ l p+cQ m p:=by simp[cQ]
theorem ym {l:List aC}{i:Nat}(h:i<l.length)(p:Nat):cQ l p=hK l[i] p+cQ (l.eraseIdx i) p:=by
 have h0:l=l.take i++l[i]::l.drop (i+1):=by rw[← kA h,jW]
 rw[sR,yl]
 conv=>lhs;rw[h0,yl,s8]
 omega
theorem Ec {l:List aC}{i:Nat}(h:i<l.length)(x:aC)(p:Nat):cQ (l.set i x) p+hK l[i] p=cQ l p+hK x p:=by
 have h1:=ym h p;have h2:=ym (l:=l.set i x) (i:=i) (by simpa using h) p;rw[ou,eraseIdx_set_eq]at h2;omega
theorem uE {l:List aC}{x:aC}(h:x∈l)(p:Nat):hK x p≤cQ l p:=by
 obtain⟨i,hi,rfl⟩:=List.mem_iff_getElem.1 h;have:=ym hi p;omega
theorem Ed (l:List aC)(p:Nat):cQ l p≤4*l.length:=by
 induction l with
 | nil=>simp[cQ]
 | cons x l ih=>rw[s8,fm];have:=Jy x p;omega
structure Rel (A:Sn)(ps:List Pg):Prop where
 len:ps.length=A.room
 refs:∀ p q,ps[p]?=some q→q.refs=cQ A.av p
 pF:∀ x∈A.av,∀ k,k<4→∃ q,ps[x.p k]?=some q∧∀ j,j<8→q.g j=x.g (8*k+j)
structure WF (A:Sn):Prop where
 room:A.room≤200
 bound:A.n<1099511627776
 last:A.last≤A.n
 many:A.av.length≤A.n
 sorted:(A.av.map (·.id)).Pairwise (· < ·)
 mD:∀ x∈A.av,1≤x.id∧x.id≤A.last∧1≤x.refs∧x.refs≤A.n
theorem Rel.ok {A:Sn}{ps:List Pg}(h:Rel A ps)(hw:WF A):ps.length≤200∧∀ p∈ps,p.refs<4611686018427387904:=by
 refine⟨h.len ▸ hw.room,λq hq=>?_⟩;obtain⟨i,hi,rfl⟩:=List.mem_iff_getElem.1 hq;rw[h.refs i _ (aD hi)];have:=Ed A.av i;have:=hw.many;have:=hw.bound;omega
theorem Rel.used {A:Sn}{ps:List Pg}(h:Rel A ps):j3 ps=A.used:=by
 have e:ps=(List.range ps.length).map (λi=>ps.getD i sY):=by
  apply ext_getElem (by simp);intro i h1 h2;simp[bl,aD h1]
 rw[j3,Sn.used,← h.len]
 conv=>lhs;rw[e]
 rw[List.countP_map];refine countP_congr λi hi=>?_;have dN:i<ps.length:=mem_range.1 hi;have:=h.refs i _ (aD dN);simp only[Function.comp,bl,aD dN,Option.getD_some,this]
theorem Rel.live {A:Sn}{ps:List Pg}(h:Rel A ps){x:aC}(hx:x∈A.av){k:Nat}(hk:k<4):∃ h:x.p k<ps.length,0<ps[x.p k].refs∧∀ j,j<8→ps[x.p k].g j=x.g (8*k+j):=by
 obtain⟨q,h1,h2⟩:=h.pF x hx k hk;obtain⟨h3,h4⟩:=aZ.1 h1;refine⟨h3,?_,λj hj=>by rw[h4];exact h2 j hj⟩;rw[h.refs _ _ (aD h3)];have:=uE hx (x.p k);have:=s7 (x:=x) hk;omega
def hL (ps:List Pg)(x:aC)(m:Nat):List Pg:=ps.mapIdx λp q=>⟨q.g,q.refs+ja x p m⟩
def jw (ps:List Pg)(x:aC)(m:Nat):List Pg:=ps.mapIdx λp q=>⟨q.g,q.refs-ja x p m⟩
theorem U6 (ps:List Pg)(x:aC):hL ps x 0=ps:=by
 apply ext_getElem (by simp[hL]);intro i h1 h2;simp[hL,AI]
theorem U7 (ps:List Pg)(x:aC):jw ps x 0=ps:=by
 apply ext_getElem (by simp[jw]);intro i h1 h2;simp[jw,AI]
theorem yn (ps:List Pg)(x:aC)(m:Nat):(hL ps x m).length=ps.length:=by simp[hL]
theorem AJ (ps:List Pg)(x:aC)(m:Nat):(jw ps x m).length=ps.length:=by simp[jw]
theorem yo {ps:List Pg}{x:aC}{m p:Nat}(h:p<(hL ps x m).length):(hL ps x m)[p]=⟨(ps[p]'(by rw[yn]at h;exact h)).g,(ps[p]'(by rw[yn]at h;exact h)).refs+ja x p m⟩:=by simp[hL]
theorem AK {ps:List Pg}{x:aC}{m p:Nat}(h:p<(jw ps x m).length):(jw ps x m)[p]=⟨(ps[p]'(by rw[AJ]at h;exact h)).g,(ps[p]'(by rw[AJ]at h;exact h)).refs-ja x p m⟩:=by simp[jw]
theorem U8 {ps:List Pg}{x:aC}{m:Nat}(h:x.p m<(hL ps x m).length):(hL ps x m).set (x.p m) ⟨(hL ps x m)[x.p m].g,(hL ps x m)[x.p m].refs+1⟩=hL ps x (m+1):=by
 apply ext_getElem (by simp[hL]);intro i h1 h2;rw[List.getElem_set,yo h2];by_cases hi:x.p m=i
 ·subst hi;rw[ak rfl,yo h,k6,ak rfl,Nat.add_assoc]
 ·rw[ag hi,yo (by simpa using h1),k6,ag hi];rfl
theorem Va {ps:List Pg}{x:aC}{m:Nat}(h:x.p m<(jw ps x m).length):(jw ps x m).set (x.p m) ⟨(jw ps x m)[x.p m].g,(jw ps x m)[x.p m].refs-1⟩=jw ps x (m+1):=by
 apply ext_getElem (by simp[jw]);intro i h1 h2;rw[List.getElem_set,AK h2];by_cases hi:x.p m=i
 ·subst hi;rw[ak rfl,AK h,k6,ak rfl,Nat.sub_sub]
 ·rw[ag hi,AK (by simpa using h1),k6,ag hi];rfl
theorem JB (ps:List Pg)(x:aC)(m p:Nat):(hL ps x m)[p]?=ps[p]?.map λq=>⟨q.g,q.refs+ja x p m⟩:=by simp[hL]
theorem JC (ps:List Pg)(x:aC)(m p:Nat):(jw ps x m)[p]?=ps[p]?.map λq=>⟨q.g,q.refs-ja x p m⟩:=by simp[jw]
def Sn.add (A:Sn)(g:Nat→Int)(p:Nat→Nat):Sn:={ A with last:=A.last+1,n:=A.n+1,av:=A.av++[⟨A.last+1,1,g,p⟩] }
def Sn.drop (A:Sn)(i:Nat)(x:aC):Sn:={ A with av:=if x.refs=1 then A.av.eraseIdx i else A.av.set i { x with refs:=x.refs-1 } }
def Sn.put (A:Sn)(i:Nat)(x:aC)(c:Nat)(v:Int):Sn:={ A with av:=A.av.set i { x with g:=ck x.g c v } }
def Sn.uF (A:Sn)(i:Nat)(x:aC)(c:Nat)(v:Int)(f:Nat):Sn:={ A with av:=A.av.set i { x with g:=ck x.g c v,p:=λj=>if j=c/8 then f else x.p j } }
theorem WF.add {A:Sn}(h:WF A)(hn:A.n+1<1099511627776)(g:Nat→Int)(p:Nat→Nat):WF (A.add g p):=by
 obtain⟨h1,h2,h3,h4,h5,h6⟩:=h;refine⟨h1,hn,by simp[Sn.add];omega,by simp[Sn.add];omega,?_,λx hx=>?_⟩
 ·simp only[Sn.add,cS,map_cons,map_nil];refine List.pairwise_append.2 ⟨h5,by simp,λa E b hb=>?_⟩;obtain⟨x,hx,rfl⟩:=cV.1 E;have:=(h6 x hx).2.1;simp at hb;omega
 ·simp only[Sn.add]at hx ⊢;rcases eX.1 hx with hx | hx
  ·have:=h6 x hx;omega
  ·simp at hx;subst hx;simp
theorem JD {l:List aC}{i:Nat}{x y:aC}(h:l[i]?=some x)(he:y.id=x.id):(l.set i y).map (·.id)=l.map (·.id):=by
 obtain⟨hi,rfl⟩:=aZ.1 h;rw[jx,he];apply ext_getElem?;intro j;rw[jX];by_cases hj:i=j
 ·subst hj;simp[hi]
 ·rw[ag hj]
theorem WF.set {A:Sn}(h:WF A){n:Nat}(hn:n<1099511627776)(hle:A.n≤n){i:Nat}{x y:aC}(hx:A.av[i]?=some x)(he:y.id=x.id)(hr:1≤y.refs∧y.refs≤n):WF { A with n:=n,av:=A.av.set i y }:=by
 obtain⟨h1,h2,h3,h4,h5,h6⟩:=h;have eh:=bH hx;refine⟨h1,hn,by simp only;omega,by simp only[bt];omega,by simp only;rw[JD hx he];exact h5,λz hz=>?_⟩;simp only at hz ⊢;rcases qA hz with hz | rfl
 ·have:=h6 z hz;omega
 ·have:=h6 x eh;rw[he];omega
theorem WF.erase {A:Sn}(h:WF A)(i:Nat):WF { A with av:=A.av.eraseIdx i }:=by
 obtain⟨h1,h2,h3,h4,h5,h6⟩:=h;refine⟨h1,h2,h3,?_,?_,λz hz=>h6 z (mem_of_mem_eraseIdx hz)⟩
 ·simp only;exact gC (List.length_eraseIdx_le _ _) h4
 ·simp only;rw[yk];exact h5.sublist (List.eraseIdx_sublist _ _)
theorem WF.ids {A:Sn}(h:WF A){i j:Nat}{x y:aC}(hx:A.av[i]?=some x)(hy:A.av[j]?=some y)(he:x.id=y.id):i=j:=by
 obtain⟨hi,rfl⟩:=aZ.1 hx;obtain⟨hj,rfl⟩:=aZ.1 hy;have hp:=List.pairwise_iff_getElem.1 h.sorted;rcases Nat.lt_trichotomy i j with hl | hl | hl
 ·have:=hp i j (by simpa using hi) (by simpa using hj) hl;simp at this;omega
 ·exact hl
 ·have:=hp j i (by simpa using hj) (by simpa using hi) hl;simp at this;omega
theorem Rel.add {A:Sn}{ps:List Pg}(h:Rel A ps){x:aC}(hx:x∈A.av):Rel (A.add x.g x.p) (hL ps x 4):=by
 refine⟨by rw[yn];exact h.len,λp q hq=>?_,λy hy k hk=>?_⟩
 ·rw[JB]at hq;obtain⟨q0,h1,rfl⟩:=rC.1 hq;have:=h.refs p q0 h1;simp only[Sn.add,yl,s8,Eb,this];rfl
 ·have h0 : ∀ y : aC, (∃ q, ps[y.p k]? = some q ∧ ∀ j, j < 8 → q.g j = y.g (8 * k + j)) → ∃ q, (hL ps x 4)[y.p k]? = some q ∧ ∀ j, j < 8 → q.g j = y.g (8 * k + j) := by
   rintro y ⟨q,h1,h2⟩;exact⟨⟨q.g,q.refs+ja x (y.p k) 4⟩,by rw[JB,h1];rfl,h2⟩
  simp only[Sn.add]at hy;rcases eX.1 hy with hy | hy
  ·exact h0 y (h.pF y hy k hk)
  ·simp at hy;subst hy;exact h0 ⟨A.last+1,1,x.g,x.p⟩ (h.pF x hx k hk)
theorem Rel.Vb {A:Sn}{ps:List Pg}(h:Rel A ps){n i:Nat}{x:aC}{r:Nat}(hx:A.av[i]?=some x):Rel { A with n:=n,av:=A.av.set i { x with refs:=r } } ps:=by
 obtain⟨hi,rfl⟩:=aZ.1 hx;refine⟨h.len,λp q hq=>?_,λy hy k hk=>?_⟩
 ·have:=Ec hi { A.av[i] with refs:=r } p;have h2:hK { A.av[i] with refs:=r } p=hK A.av[i] p:=JA (λ_ _=>rfl) p;rw[h.refs p q hq];show cQ A.av p=cQ (A.av.set i { A.av[i] with refs:=r }) p;omega
 ·simp only at hy;rcases qA hy with hy | rfl
  ·exact h.pF y hy k hk
  ·exact h.pF _ (iI hi) k hk
theorem Rel.erase {A:Sn}{ps:List Pg}(h:Rel A ps){i:Nat}{x:aC}(hx:A.av[i]?=some x):Rel { A with av:=A.av.eraseIdx i } (jw ps x 4):=by
 obtain⟨hi,rfl⟩:=aZ.1 hx;refine⟨by rw[AJ];exact h.len,λp q hq=>?_,λy hy k hk=>?_⟩
 ·rw[JC]at hq;obtain⟨q0,h1,rfl⟩:=rC.1 hq;have:=h.refs p q0 h1;have h2:=ym hi p;simp only[this,h2];show _-hK A.av[i] p=_;omega
 ·obtain⟨q,h1,h2⟩:=h.pF y (mem_of_mem_eraseIdx hy) k hk;exact⟨⟨q.g,q.refs-ja A.av[i] (y.p k) 4⟩,by rw[JC,h1];rfl,h2⟩
theorem alone {A:Sn}{i:Nat}{x:aC}(hx:A.av[i]?=some x){k:Nat}(hk:k<4)(h1:cQ A.av (x.p k)≤1){j:Nat}{y:aC}(hy:A.av[j]?=some y){k':Nat}(e7:k'<4)(he:y.p k'=x.p k):j=i∧k'=k:=by
 obtain⟨hi,rfl⟩:=aZ.1 hx;have h2:=ym hi (A.av[i].p k);have h3:=s7 (x:=A.av[i]) hk;have gP:j=i:=by
  rcases Nat.lt_trichotomy j i with hl | hl | hl
  ·have hm : y ∈ A.av.eraseIdx i := by
    rw[List.mem_eraseIdx_iff_getElem?];exact⟨j,by omega,hy⟩
   have h4:=uE hm (A.av[i].p k);rw[← he]at h4 h2 h3 h1;have:=s7 (x:=y) e7;omega
  ·exact hl
  ·have hm : y ∈ A.av.eraseIdx i := by
    rw[List.mem_eraseIdx_iff_getElem?];exact⟨j,by omega,hy⟩
   have h4:=uE hm (A.av[i].p k);rw[← he]at h4 h2 h3 h1;have:=s7 (x:=y) e7;omega
 refine⟨gP,?_⟩;subst gP;rw[aD hi]at hy;cases hy;by_cases j4:k'=k
 ·exact j4
 ·have:=U1 hk e7 (Ne.symm j4) he.symm;omega
theorem Rel.put {A:Sn}{ps:List Pg}(h:Rel A ps){i:Nat}{x:aC}(hx:A.av[i]?=some x){c:Nat}(hc:c<32)(h1:cQ A.av (x.p (c/8))=1)(v:Int)(hl:x.p (c/8)<ps.length) :
   Rel (A.put i x c v) (ps.set (x.p (c/8)) ⟨λj=>if j=c%8 then v else ps[x.p (c/8)].g j,1⟩):=by
 have hi:=(aZ.1 hx).1;have gX:=(aZ.1 hx).2;have hk:c/8<4:=by omega
 have yp:∀ p,cQ (A.put i x c v).av p=cQ A.av p:=λp=>by
  have:=Ec hi { x with g:=ck x.g c v } p;have h2:hK { x with g:=ck x.g c v } p=hK A.av[i] p:=by rw[gX];exact JA (λ_ _=>rfl) p
  simp only[Sn.put];omega
 refine⟨by rw[bt];exact h.len,λp q hq=>?_,λy hy k e7=>?_⟩
 ·rw[yp];rw[jX]at hq;by_cases hp:x.p (c/8)=p
  ·subst hp;rw[ak rfl,ak hl]at hq;cases hq;exact h1.symm
  ·rw[ag hp]at hq;exact h.refs p q hq
 ·simp only[Sn.put]at hy;obtain⟨j,hj⟩:=j5.1 hy;rw[jX]at hj;by_cases oz:i=j
  ·rw[ak oz,ak hi]at hj;cases hj;obtain⟨q,h2,h3⟩:=h.pF x (bH hx) k e7;by_cases rq:k=c/8
   ·subst rq;refine⟨⟨λj=>if j=c%8 then v else ps[x.p (c/8)].g j,1⟩,by simp[hl],λm hm=>?_⟩;rw[aD hl]at h2;cases h2;simp only[ck];by_cases iE:m=c%8
    ·rw[ak iE,ak (by omega)]
    ·rw[ag iE,ag (by omega)];exact h3 m hm
   ·have bT:x.p (c/8)≠x.p k:=λe=>rq (alone hx hk (by omega) hx e7 e.symm).2;refine⟨q,by simp only;rw[getElem?_set_ne bT];exact h2,λm hm=>?_⟩;simp only[ck];rw[ag (by omega)];exact h3 m hm
  ·rw[ag oz]at hj;obtain⟨q,h2,h3⟩:=h.pF y (bH hj) k e7;have bT:x.p (c/8)≠y.p k:=λe=>oz (alone hx hk (by omega) hj e7 e.symm).1.symm;exact⟨q,by rw[getElem?_set_ne bT];exact h2,h3⟩
theorem Rel.uF {A:Sn}{ps:List Pg}(h:Rel A ps){i:Nat}{x:aC}(hx:A.av[i]?=some x){c f:Nat}(hc:c<32)(h1:1<cQ A.av (x.p (c/8)))(v:Int)(hl:x.p (c/8)<ps.length)(hf:f<ps.length)(h0:ps[f].refs=0) :
   Rel (A.uF i x c v f) ((ps.set (x.p (c/8)) ⟨ps[x.p (c/8)].g,ps[x.p (c/8)].refs-1⟩).set f ⟨λj=>if j=c%8 then v else ps[x.p (c/8)].g j,1⟩):=by
 have hi:=(aZ.1 hx).1;have gX:=(aZ.1 hx).2;have hk:c/8<4:=by omega
 have Ee:cQ A.av f=0:=by rw[← h.refs f _ (aD hf)];exact h0
 have Ef:∀ y∈A.av,∀ k,k<4→y.p k≠f:=λy hy k e7 e=>by
  have h2:=uE hy f;rw[← e]at h2 Ee;have:=s7 (x:=y) e7;omega
 have eh:=bH hx;have AM:x.p (c/8)≠f:=Ef x eh _ hk;have JE:∀ p,hK { x with g:=ck x.g c v,p:=λj=>if j=c/8 then f else x.p j } p+(if x.p (c/8)=p then 1 else 0)=hK x p+(if f=p then 1 else 0):=λp=>by
  rw[uD,uD];simp only;rcases (by omega:c/8=0∨c/8=1∨c/8=2∨c/8=3) with e | e | e | e <;> rw[e] <;> simp <;> omega
 refine⟨by rw[bt,bt];exact h.len,λp q hq=>?_,λy hy k e7=>?_⟩
 ·have h2:=Ec hi { x with g:=ck x.g c v,p:=λj=>if j=c/8 then f else x.p j } p;have h3:=JE p;rw[gX]at h2;simp only[Sn.uF];by_cases hp:f=p
  ·subst hp;rw[getElem?_set_self (by rw[bt];exact hf)]at hq;cases hq;rw[ak rfl,ag AM]at h3;simp only;omega
  ·rw[getElem?_set_ne hp]at hq;rw[ag hp]at h3;by_cases hZ:x.p (c/8)=p
   ·subst hZ;rw[getElem?_set_self hl]at hq;cases hq;rw[ak rfl]at h3;have h4:=h.refs _ _ (aD hl);simp only;omega
   ·rw[getElem?_set_ne hZ]at hq;rw[ag hZ]at h3;have h4:=h.refs _ _ hq;omega
 ·simp only[Sn.uF]at hy;obtain⟨j,hj⟩:=j5.1 hy;rw[jX]at hj;have wo:∀ y:aC,(∃ q,ps[y.p k]?=some q∧∀ j,j<8→q.g j=y.g (8*k+j))→y.p k≠f→∃ q,((ps.set (x.p (c/8)) ⟨ps[x.p (c/8)].g,ps[x.p (c/8)].refs-1⟩).set f ⟨λj=>if j=c%8 then v else ps[x.p (c/8)].g j,1⟩)[y.p k]?=some q∧∀ j,j<8→q.g j=y.g (8*k+j):=by
   rintro y ⟨q,h2,h3⟩ hn;by_cases hp:x.p (c/8)=y.p k
   ·rw[← hp]at h2 ⊢;rw[aD hl]at h2;cases h2;refine⟨⟨ps[x.p (c/8)].g,ps[x.p (c/8)].refs-1⟩,?_,h3⟩;rw[getElem?_set_ne (Ne.symm AM),getElem?_set_self hl]
   ·exact⟨q,by rw[getElem?_set_ne (Ne.symm hn),getElem?_set_ne hp];exact h2,h3⟩
  by_cases oz:i=j
  ·rw[ak oz,ak hi]at hj;cases hj;obtain⟨q,h2,h3⟩:=h.pF x eh k e7;by_cases rq:k=c/8
   ·subst rq;refine⟨⟨λj=>if j=c%8 then v else ps[x.p (c/8)].g j,1⟩,by simp only[if_true];rw[getElem?_set_self (by rw[bt];exact hf)],λm hm=>?_⟩;rw[aD hl]at h2;cases h2;simp only[ck];by_cases iE:m=c%8
    ·rw[ak iE,ak (by omega)]
    ·rw[ag iE,ag (by omega)];exact h3 m hm
   ·obtain⟨q',h4,h5⟩:=wo x ⟨q,h2,h3⟩ (Ef x eh k e7);refine⟨q',by simp only[ag rq];exact h4,λm hm=>?_⟩;simp only[ck];rw[ag (by omega)];exact h5 m hm
  ·rw[ag oz]at hj;exact wo y (h.pF y (bH hj) k e7) (Ef y (bH hj) k e7)
end
section
def jd (x:aC×Nat):SP:=aa x.2 232 x.1.cells
def kvs (xs:List (aC×Nat)):List (Int×Value):=xs.map λx=>((x.1.id:Int),Value.pointer (some ⟨x.2,0,none⟩))
def ax (q r:Nat)(A:Sn):SP:=λh=>∃ b m ps xs,(xs.map (·.1)=A.av∧WF A∧Rel A ps) ∧
 cp [aa q 221 [pt r,.map (some m),.int .i64 A.last],mp m (kvs xs),Room r b ps,ah jd xs] h
section
variable {W w:World}{L L' R:List SP}{q r b m i pb:Nat}{A:Sn}{ps:List Pg}{xs:List (aC×Nat)}{x y:aC}
theorem ax.open (I:U W w (ax q r A::L)):∃ b m ps xs,xs.map (·.1)=A.av∧WF A∧Rel A ps ∧
   U W w (aa q 221 [pt r,.map (some m),.int .i64 A.last]::mp m (kvs xs)::Room r b ps::ah jd xs::L):=by
 obtain⟨⟨b,m,ps,xs⟩,⟨h1,h2,h3⟩,h4⟩:=I.jL (ι:=Nat×Nat×List Pg×List (aC×Nat)) (p:=λi=>i.2.2.2.map (·.1)=A.av∧WF A∧Rel A i.2.2.1)
  (B:=λi h=>cp [aa q 221 [pt r,.map (some i.2.1),.int .i64 A.last],mp i.2.1 (kvs i.2.2.2),Room r i.1 i.2.2.1,ah jd i.2.2.2] h)
  (λh ⟨b,m,ps,xs,h1,h2⟩=>⟨(b,m,ps,xs),h1,h2⟩)
 exact⟨b,m,ps,xs,h1,h2,h3,h4.open λ_ h=>h⟩
theorem ax.close {last:Nat}(I:U W w L)[k:fN L (aa q 221 [pt r,.map (some m),.int .i64 last]::mp m (kvs xs)::Room r b ps::ah jd xs::L') R]
   (h1:xs.map (·.1)=A.av) (h2:WF A) (h3:Rel A ps) (hl:A.last=last:=by rfl):U W w (ax q r A::L'):=by
 subst hl;exact U.shut (M:=[_,_,_,_]) (I.sub (M:=aa q 221 [pt r,.map (some m),.int .i64 A.last]::mp m (kvs xs)::Room r b ps::ah jd xs::L')) (λ_ x=>⟨b,m,ps,xs,⟨h1,h2,h3⟩,x⟩)
theorem qB (h1:xs.map (·.1)=A.av)(hx:A.av[i]?=some x):∃ pb,xs[i]?=some (x,pb):=by
 rw[← h1,bm]at hx;obtain⟨⟨y,pb⟩,h2,rfl⟩:=rC.1 hx;exact⟨pb,h2⟩
theorem U.rF (I:U W w L)(hx:xs[i]?=some (x,pb))[k:qo L (ah jd xs) R]:U W w (aa pb 232 x.cells::ah jd (xs.eraseIdx i)::R):=by
 obtain⟨hi,he⟩:=aZ.1 hx;have:=(I.perm k.perm).fo hi;rw[he]at this;exact this
theorem Vc (hx:xs[i]?=some (x,pb))(he:y.id=x.id):kvs (xs.set i (y,pb))=kvs xs:=by
 have hi:=(aZ.1 hx).1;apply ext_getElem?;intro j;simp only[kvs,bm,jX];by_cases hj:i=j
 ·subst hj;rw[ak rfl,ak hi,hx];simp[he]
 ·rw[ag hj]
theorem ax.uG {B:Sn}{last:Nat}(I:U W w L)[k:fN L (aa q 221 [pt r,.map (some m),.int .i64 last]::mp m (kvs xs)::Room r b ps::aa pb 232 y.cells::ah jd (xs.eraseIdx i)::L') R]
   (hx:xs[i]?=some (x,pb)) (h1:xs.map (·.1)=A.av) (he:y.id=x.id) (hB:B.av=A.av.set i y) (h2:WF B) (h3:Rel B ps) (hl:B.last=last:=by rfl):U W w (ax q r B::L'):=by
 subst hl;obtain⟨hi,_⟩:=aZ.1 hx;have h0:=I.sub (M:=aa q 221 [pt r,.map (some m),.int .i64 B.last]::mp m (kvs xs)::Room r b ps::aa pb 232 y.cells::ah jd (xs.eraseIdx i)::L');have h4:=h0.sub (M:=aa pb 232 y.cells::ah jd (xs.eraseIdx i)::aa q 221 [pt r,.map (some m),.int .i64 B.last]::mp m (kvs xs)::Room r b ps::L');have h5:=U.kY (f:=jd) (x:=(y,pb)) hi h4;rw[← Vc (y:=y) hx he]at h5;exact ax.close (b:=b) (m:=m) (xs:=xs.set i (y,pb)) h5 (by rw[jx,h1,hB]) h2 h3
theorem yq (hx:A.av[i]?=some x):A.av=A.av.set i x:=by
 obtain⟨hi,rfl⟩:=aZ.1 hx;rw[mE]
theorem findAt (h1:xs.map (·.1)=A.av)(hw:WF A)(hx:xs[i]?=some (x,pb)):m7 (kvs xs) (x.id:Int) 0=some (i,pt pb):=by
 have hA:∀ (j:Nat) (z:aC×Nat),xs[j]?=some z→A.av[j]?=some z.1:=λj z hz=>by rw[← h1,bm,hz];rfl
 have:=UJ (kvs:=kvs xs) (k:=(x.id:Int)) (v:=pt pb) (j:=i) 0 (by rw[kvs,bm,hx];rfl) (λj hj p hp=>by
  rw[kvs,bm]at hp;obtain⟨z,hz,rfl⟩:=rC.1 hp;intro e;simp at e;have:=hw.ids (hA j z hz) (hA i _ hx) (Int.ofNat.inj e);omega)
 rwa [ep]at this
theorem qC {last:Nat}(I:U W w (aa q 221 [pt r,.map (some m),.int .i64 last]::mp m (kvs xs)::L))(h1:xs.map (·.1)=A.av)(hw:WF A)(hx:xs[i]?=some (x,pb)) :
   Calls prog 120 #[pt q,.int .i64 x.id] w λe V=>e=.returned (pt pb) ∧
    U W V (aa q 221 [pt r,.map (some m),.int .i64 last]::mp m (kvs xs)::L):=by
 have hf:=findAt h1 hw hx;refine EN func120 ntmps120 rfl rfl λa E=>?_;refine RN 6 E I λa E=>?_;replace E:=E.aK 6;refine RN 7 E I λa E=>?_;refine SS E (Jp E underlying218 underlying166 Ty.t219 I (v:=pt pb) (by rw[hf];rfl)) λa E=>?_;refine RT 1 E I ?_;exact⟨rfl,I⟩
theorem JF {last:Nat}{X:Int}(I:U W w (aa q 221 [pt r,.map (some m),.int .i64 last]::mp m (kvs xs)::L))(h1:xs.map (·.1)=A.av)(hn:∀ y∈A.av,(y.id:Int)≠X) :
   Calls prog 120 #[pt q,.int .i64 X] w λe V=>e=.returned (.pointer none) ∧
    U W V (aa q 221 [pt r,.map (some m),.int .i64 last]::mp m (kvs xs)::L):=by
 have hf:m7 (kvs xs) X 0=none:=Jl (λp hp=>by
  obtain⟨z,hz,rfl⟩:=cV.1 hp;exact hn z.1 (by rw[← h1];exact cV.2 ⟨z,hz,rfl⟩)) 0
 refine EN func120 ntmps120 rfl rfl λa E=>?_;refine RN 6 E I λa E=>?_;replace E:=E.aK 6;refine RN 7 E I λa E=>?_;refine SS E (Jp E underlying218 underlying166 Ty.t219 I (v:=.pointer none) (by rw[hf];rfl)) λa E=>?_;refine RT 1 E I ?_;exact⟨rfl,I⟩
theorem Vd (I:U W w (ax q r A::L))(hx:A.av[i]?=some x) :
   Calls prog 214 #[pt q,.int .i64 x.id] w λe V=>e=.returned (.int .i64 x.refs)∧U W V (ax q r A::L):=by
 obtain⟨b,m,ps,xs,h1,hw,hr,I⟩:=ax.open I;obtain⟨pb,bd⟩:=qB h1 hx;refine EN func214 ntmps214 rfl rfl λa E=>?_;refine CL 5 E I (qC I h1 hw bd) λa w E I=>?_;refine RN 5 E I λa E=>?_;replace E:=E.aK 10;refine RN 2 E I λa E=>?_;replace I:=I.rF bd;refine RN 3 E I λa E=>?_;refine SS E (ae E (I.bz aC.ref)) λa E=>?_;refine RT 1 E I ?_;exact⟨rfl,ax.uG (b:=b) (m:=m) (ps:=ps) (pb:=pb) (y:=x) I bd h1 rfl (yq hx) hw hr⟩
theorem Ve {X:Int}(I:U W w (ax q r A::L))(hn:∀ y∈A.av,(y.id:Int)≠X) :
   Calls prog 214 #[pt q,.int .i64 X] w λe V=>e=.returned (.int .i64 0)∧U W V (ax q r A::L):=by
 obtain⟨b,m,ps,xs,h1,hw,hr,I⟩:=ax.open I;refine EN func214 ntmps214 rfl rfl λa E=>?_;refine CL 5 E I (JF I h1 hn) λa w E I=>?_;refine RN 5 E I λa E=>?_;replace E:=E.eG 10;refine RT 3 E I ?_;exact⟨rfl,ax.close (b:=b) (m:=m) I h1 hw hr⟩
theorem AN {c:Nat}(h:c<4096):IntKind.i64.wrap ((c:Int).tdiv 8)=(c:Int).tdiv 8:=by
 rw[show (c:Int).tdiv 8=((c/8:Nat):Int) from ru c 8];exact fU (by omega) (by omega)
theorem JG {c:Nat}(I:U W w (ax q r A::L))(hx:A.av[i]?=some x)(hc:c<32) :
   Calls prog 308 #[pt q,.int .i64 x.id,.int .i64 c] w λe V=>e=.returned (.tuple #[.int .i32 (x.g c),.bool true])∧U W V (ax q r A::L):=by
 obtain⟨b,m,ps,xs,h1,hw,hr,I⟩:=ax.open I;obtain⟨pb,bd⟩:=qB h1 hx;obtain⟨gF,hZ,s9⟩:=hr.live (bH hx) (k:=c/8) (by omega);refine EN func308 ntmps308 rfl rfl λa E=>?_;refine CL 6 E I (qC I h1 hw bd) λa w E I=>?_;refine RN 6 E I λa E=>?_;replace E:=E.aK 14;refine RN 4 E I λa E=>?_;rw[bn (by omega)]at E;refine RN 3 E I λa E=>?_;rw[bn (by omega)]at E;refine RN 2 E I λa E=>?_;replace I:=I.rF bd;refine bW 0 [10] [0,1,2,4,5,6,7,8,9,11,12,3003,1010,1013,14,15,16,17] E I λa w E I hH hC=>?_;refine RH 5 E I hH hC λa E=>?_;refine QP E (λw=>wa E (by decide) (AN (by omega))) λa E=>?_;rw[show (c:Int).tdiv 8=((c/8:Nat):Int) from ru c 8]at E;refine RH 4 E I hH hC λa E=>?_;refine QP E (λw=>Ap E (by decide)) λa E=>?_;rw[show (c:Int).tmod 8=((c%8:Nat):Int) from ot c 8]at E;refine RH 1 E I hH hC λa E=>?_;refine SS E (ae E (I.bz (aC.at (by omega)))) λa E=>?_;refine RH 0 E I hH hC λa E=>?_;refine CL 0 E I (UD (I.pick (Room r b ps)) gF hZ (Nat.mod_lt c (by decide))) λa w E I=>?_;refine RN 4 E I λa E=>?_;refine RT 0 E I ?_;exact⟨by rw[s9 _ (Nat.mod_lt c (by decide)),show 8*(c/8)+c%8=c from by omega],ax.uG (b:=b) (m:=m) (ps:=ps) (pb:=pb) (y:=x) I bd h1 rfl (yq hx) hw hr⟩
theorem JH {A:Sn}(h1:xs.map (·.1)=A.av)(hw:WF A):∀ p∈kvs xs,p.1≠((A.last+1:Nat):Int):=by
 intro p hp;obtain⟨z,hz,rfl⟩:=cV.1 hp;have:=(hw.mD z.1 (by rw[← h1];exact cV.2 ⟨z,hz,rfl⟩)).2.1;simp only;omega
theorem Vf {i:Int}(h1:-9223372036854775808≤i)(h2:i≤9223372036854775807):(Lit.int .i64 i).wf=true:=(Lit.wf_int_iff .i64 i).2 ⟨h1,h2⟩
theorem JI {last:Nat}(I:U W w (aa q 221 [pt r,.map (some m),.int .i64 last]::mp m (kvs xs)::L))(hl:last<1099511627776)(hn:∀ p∈kvs xs,p.1≠((last+1:Nat):Int)) :
   Calls prog 129 #[pt q,.agg (aC.cells x).toArray] w λe V=>∃ pb,e=.returned (.int .i64 ((last+1:Nat):Int)) ∧
    U W V (aa q 221 [pt r,.map (some m),.int .i64 ((last+1:Nat):Int)]::mp m (kvs xs++[(((last+1:Nat):Int),pt pb)])::aa pb 232 (aC.cells { x with refs:=1 })::L):=by
 refine EN func129 ntmps129 rfl rfl λa E=>?_;refine BX 1 E I λb3 a w E I=>?_;refine RN 7 E I λa E=>?_;rw[show ((last:Int)+1)=((last+1:Nat):Int) from rfl]at E;refine ST 2 E I (λa w E I=>?_);refine ST 2 E I (λa w E I=>?_) (hlt:=(by rw[aC.len];decide));rw[show (Value.int IntKind.i64 1)=.int .i64 ((1:Nat):Int) from rfl,aC.D9]at I;refine bW 1 [7] [0,1,2,4,5,6,3003,1007,1008] E I λa w E I hH hC=>?_;refine RH 8 E I hH hC λa E=>?_;refine UM E rfl I underlying218 underlying166 (Vf (by omega) (by omega)) hn λa w E I=>?_;refine RT 6 E I ?_;exact⟨b3,rfl,I.sub⟩
theorem U.Eg {e:Nat}(I:U W w L)(pb:Nat)[k:fM L pb e x.cells R]:Rd w pb 0 (ints .i64 4 (λk=>(x.p k:Int)+1)):=by
 have:=I.qm (b:=pb) (off:=0) (cs:=x.cells) 4 (sc:=mo.any)
 rwa [drop_zero,aC.cells,List.take_left' (di _ _ _)]at this
theorem JJ (I:U W w (ax q r A::L))(hx:A.av[i]?=some x)(hb:A.n+1<1099511627776) :
   Calls prog 181 #[pt q,.int .i64 x.id] w λe V=>e=.returned (.tuple #[.int .i64 ((A.last+1:Nat):Int),.bool true])∧U W V (ax q r (A.add x.g x.p)::L):=by
 obtain⟨b,m,ps,xs,h1,hw,hr,I⟩:=ax.open I;obtain⟨pb,bd⟩:=qB h1 hx;have eh:=bH hx;have uH:=hw.last;have AO:=hr.add eh;have AP:=hw.add hb x.g x.p;have dj:=AO.ok AP;refine EN func181 ntmps181 rfl rfl λa E=>?_;refine CL 6 E I (qC I h1 hw bd) λa w E I=>?_;refine RN 5 E I λa E=>?_;replace E:=E.aK 13;refine RN 3 E I λa E=>?_;replace I:=I.rF bd;refine RN 3 E I λa E=>?_;refine SS E (bQ E underlying230 rfl Ty.t230 (I.Eg pb)) λa E=>?_;refine RN 1 E I λa E=>?_;refine aQ (λμ a w=>∃ k:Nat,(μ=4-k∧k≤4)∧Fr a 33 [(0,pt q),(6,pt pb),(17,.agg (ints .i64 4 (λk=>(x.p k:Int)+1)).toArray),(18,.int .i64 k)]∧U W w (Room r b (hL ps x k)::aa pb 232 x.cells::ah jd (xs.eraseIdx i)::aa q 221 [pt r,.map (some m),.int .i64 A.last]::mp m (kvs xs)::L)) (4) (⟨0,⟨by simp,by simp⟩,E.ab [0,6,17,18],by rw[U6];exact I.sub⟩) ?_;clear E I;rintro μ a w ⟨k,⟨rfl,hk⟩,E,I⟩;have Vg:=yn ps x k;refine IF 3 E I (λao a E=>?_) λao a E=>?_
 ·
  refine RN 2 E I λa E=>?_;refine SS E (sP E underlying230 underlying3 rfl Ty.t3 (by omega) (fX _ (by omega))) λa E=>?_;refine RN 1 E I λa E=>?_;obtain⟨gF,hZ,s9⟩:=hr.live eh (k:=k) (by omega);have wq:x.p k<(hL ps x k).length:=by omega
  have Eh:=U8 wq;have Vh:(hL ps x k)[x.p k].refs+1<4611686018427387904:=by
   have h3:=s6 x (x.p k) (m:=k+1) (n:=4) (by omega);have h4:=dj.2 _ (iI (show x.p k<(hL ps x 4).length by rw[yn];exact gF));rw[yo]at h4 ⊢;rw[k6,ak rfl]at h3;simp only at h4 ⊢;omega
  have Ei:0<(hL ps x k)[x.p k].refs:=by rw[yo];simp only;omega
  refine CL 5 E I (UC (I.pick (Room r b (hL ps x k))) wq Ei Vh) λa w E I=>?_;rw[Eh]at I;refine RN 2 E I λa E=>?_;exact⟨4-(k+1),by omega,k+1,⟨rfl,by omega⟩,E.ab [0,6,17,18],I.sub⟩
 obtain rfl:k=4:=by omega
 refine aW 5 E I (JI (q:=q) (r:=r) (m:=m) (last:=A.last) (L:=Room r b (hL ps x 4)::aa pb 232 x.cells::ah jd (xs.eraseIdx i)::L) I.sub (by have:=hw.bound;omega) (JH h1 hw)) λwu a w E I=>?_;refine RT 2 E I ?_;refine⟨rfl,?_⟩;have hi:=(aZ.1 bd).1;have h5:=U.kY (f:=jd) (x:=(x,pb)) hi (I.sub (M:=aa pb 232 x.cells::ah jd (xs.eraseIdx i)::aa wu 232 (aC.cells { x with refs:=1 })::aa q 221 [pt r,.map (some m),.int .i64 ((A.last+1:Nat):Int)]::mp m (kvs xs++[(((A.last+1:Nat):Int),pt wu)])::Room r b (hL ps x 4)::L));rw[show xs.set i (x,pb)=xs from by
  have:=aZ.1 bd;rw[← this.2,mE]]at h5
 have h6:=U.jY (f:=jd) (x:=(⟨A.last+1,1,x.g,x.p⟩,wu)) (h5.perm (cW _ _ _));rw[show kvs xs++[(((A.last+1:Nat):Int),Value.pointer (some ⟨wu,0,none⟩))]=kvs (xs++[(⟨A.last+1,1,x.g,x.p⟩,wu)]) from by simp[kvs]]at h6;exact ax.close (last:=A.last+1) (b:=b) (m:=m) (xs:=xs++[(⟨A.last+1,1,x.g,x.p⟩,wu)]) h6 (by simp[Sn.add,h1]) AP AO
theorem Vi (I:U W w (ax q r A::L))(hx:A.av[i]?=some x)(h2:x.refs≠1) :
   Calls prog 185 #[pt q,.int .i64 x.id] w λe V=>e=.returned (.bool true)∧U W V (ax q r (A.drop i x)::L):=by
 obtain⟨b,m,ps,xs,h1,hw,hr,I⟩:=ax.open I;obtain⟨pb,bd⟩:=qB h1 hx;have wv:=hw.mD x (bH hx);have hA:A.drop i x={ A with n:=A.n,av:=A.av.set i { x with refs:=x.refs-1 } }:=by rw[Sn.drop,ag h2]
 have nL:=hw.bound;refine EN func185 ntmps185 rfl rfl λa E=>?_;refine CL 5 E I (qC I h1 hw bd) λa w E I=>?_;refine RN 5 E I λa E=>?_;replace E:=E.aK 12;refine RN 3 E I λa E=>?_;replace I:=I.rF bd;refine RN 3 E I λa E=>?_;refine SS E (ae E (I.bz aC.ref)) λa E=>?_;refine ST 3 E I (λa w E I=>?_) (hlt:=(by rw[aC.len];decide));rw[show ((x.refs:Int)-1)=((x.refs-1:Nat):Int) from by omega,aC.D9]at I;refine RN 4 E I λa E=>?_;refine SS E (ae E (I.bz aC.ref)) λa E=>?_;refine RN 1 E I λa E=>?_;rw[dp (by simp;omega)]at E;refine RT 3 E I ?_;exact⟨rfl,ax.uG (last:=A.last) (b:=b) (m:=m) (ps:=ps) (pb:=pb) (y:={ x with refs:=x.refs-1 }) (B:=A.drop i x) I bd h1 rfl (by rw[hA]) (by rw[hA];exact hw.set nL (bh _) hx rfl (by simp only;omega)) (by rw[hA];exact hr.Vb hx)⟩
theorem Vj (I:U W w (ax q r A::L))(hx:A.av[i]?=some x)(h2:x.refs=1) :
   Calls prog 185 #[pt q,.int .i64 x.id] w λe V=>e=.returned (.bool true)∧U W V (ax q r (A.drop i x)::L):=by
 obtain⟨b,m,ps,xs,h1,hw,hr,I⟩:=ax.open I;obtain⟨pb,bd⟩:=qB h1 hx;have eh:=bH hx;have hA:A.drop i x={ A with av:=A.av.eraseIdx i }:=by rw[Sn.drop,ak h2]
 refine EN func185 ntmps185 rfl rfl λa E=>?_;refine CL 5 E I (qC I h1 hw bd) λa w E I=>?_;refine RN 5 E I λa E=>?_;replace E:=E.aK 12;refine RN 3 E I λa E=>?_;replace I:=I.rF bd;refine RN 3 E I λa E=>?_;refine SS E (ae E (I.bz aC.ref)) λa E=>?_;refine ST 3 E I (λa w E I=>?_) (hlt:=(by rw[aC.len];decide));rw[show ((x.refs:Int)-1)=((x.refs-1:Nat):Int) from by omega,aC.D9]at I;refine RN 4 E I λa E=>?_;refine SS E (ae E (I.bz aC.ref)) λa E=>?_;refine RN 1 E I λa E=>?_;rw[bn (by simp;omega)]at E;refine RN 6 E I λa E=>?_;refine SS E (bQ E underlying230 rfl Ty.t230 (I.Eg (x:={ x with refs:=x.refs-1 }) pb)) λa E=>?_;refine RN 1 E I λa E=>?_;refine aQ (λμ a w=>∃ k:Nat,(μ=4-k∧k≤4)∧Fr a 44 [(0,pt q),(1,.int .i64 x.id),(28,.agg (ints .i64 4 (λk=>(x.p k:Int)+1)).toArray),(29,.int .i64 k)]∧U W w (Room r b (jw ps x k)::ah jd (xs.eraseIdx i)::aa q 221 [pt r,.map (some m),.int .i64 A.last]::mp m (kvs xs)::L)) (4) (⟨0,⟨by simp,by simp⟩,E.ab [0,1,28,29],by rw[U7];exact I.sub⟩) ?_;clear E I;rintro μ a w ⟨k,⟨rfl,hk⟩,E,I⟩;have Vg:=AJ ps x k;refine IF 3 E I (λay a E=>?_) λay a E=>?_
 ·
  refine RN 2 E I λa E=>?_;refine SS E (sP E underlying230 underlying3 rfl Ty.t3 (by omega) (fX _ (by omega))) λa E=>?_;refine RN 1 E I λa E=>?_;obtain⟨gF,hZ,s9⟩:=hr.live eh (k:=k) (by omega);have wq:x.p k<(jw ps x k).length:=by omega
  have Eh:=Va wq;have Ei:0<(jw ps x k)[x.p k].refs:=by
   have h3:=s6 x (x.p k) (m:=k+1) (n:=4) (by omega);have h4:=hr.refs _ _ (aD gF);have h5:ja x (x.p k) 4≤cQ A.av (x.p k):=uE eh (x.p k);rw[k6,ak rfl]at h3;rw[AK];simp only;omega
  refine CL 5 E I (Ji (I.pick (Room r b (jw ps x k))) wq Ei) λa w E I=>?_;rw[Eh]at I;refine RN 2 E I λa E=>?_;exact⟨4-(k+1),by omega,k+1,⟨rfl,by omega⟩,E.ab [0,1,28,29],I.sub⟩
 obtain rfl:k=4:=by omega
 refine RN 6 E I λa E=>?_;refine UN E rfl I underlying218 underlying166 (findAt h1 hw bd) λa w E I=>?_;refine RT 2 E I ?_;have hk:(kvs xs).eraseIdx i=kvs (xs.eraseIdx i):=(yk _ _ _).symm;rw[hk]at I;exact⟨rfl,ax.close (last:=A.last) (b:=b) (m:=m) (ps:=jw ps x 4) (xs:=xs.eraseIdx i) I (by rw[hA,yk,h1]) (by rw[hA];exact hw.erase i) (by rw[hA];exact hr.erase hx) (by rw[hA])⟩
theorem Vk (I:U W w (ax q r A::L))(hx:A.av[i]?=some x) :
   Calls prog 185 #[pt q,.int .i64 x.id] w λe V=>e=.returned (.bool true)∧U W V (ax q r (A.drop i x)::L):=by
 by_cases h:x.refs=1
 ·exact Vj I hx h
 ·exact Vi I hx h
theorem Vl {X:Int}(I:U W w (ax q r A::L))(hn:∀ y∈A.av,(y.id:Int)≠X) :
   Calls prog 185 #[pt q,.int .i64 X] w λe V=>e=.returned (.bool false)∧U W V (ax q r A::L):=by
 obtain⟨b,m,ps,xs,h1,hw,hr,I⟩:=ax.open I;refine EN func185 ntmps185 rfl rfl λa E=>?_;refine CL 5 E I (JF I h1 hn) λa w E I=>?_;refine RN 5 E I λa E=>?_;replace E:=E.eG 12;refine RT 3 E I ?_;exact⟨rfl,ax.close (b:=b) (m:=m) I h1 hw hr⟩
theorem WF.put (hw:WF A)(hx:A.av[i]?=some x){g:Nat→Int}{p:Nat→Nat}:WF { A with av:=A.av.set i { x with g:=g,p:=p } } :=
 hw.set (n:=A.n) (y:={ x with g:=g,p:=p }) hw.bound (bh _) hx rfl (by have:=hw.mD x (bH hx);simp only;omega)
theorem Vm {c:Nat}{v:Int}(I:U W w (ax q r A::L))(hx:A.av[i]?=some x)(hc:c<32)(h1:cQ A.av (x.p (c/8))=1) :
   Calls prog 346 #[pt q,.int .i64 x.id,.int .i64 c,.int .i32 v] w λe V=>e=.returned (.bool true)∧U W V (ax q r (A.put i x c v)::L):=by
 obtain⟨b,m,ps,xs,h2,hw,hr,I⟩:=ax.open I;obtain⟨pb,bd⟩:=qB h2 hx;obtain⟨gF,hZ,s9⟩:=hr.live (bH hx) (k:=c/8) (by omega);have wx:ps[x.p (c/8)].refs=1:=by rw[hr.refs _ _ (aD gF)];exact h1
 refine EN func346 ntmps346 rfl rfl λa E=>?_;refine CL 5 E I (qC I h2 hw bd) λa w E I=>?_;refine RN 6 E I λa E=>?_;replace E:=E.aK 18;refine RN 4 E I λa E=>?_;rw[bn (by omega)]at E;refine RN 3 E I λa E=>?_;rw[bn (by omega)]at E;refine RN 2 E I λa E=>?_;replace I:=I.rF bd;refine RN 2 E I λa E=>?_;refine SS E (wa E (by decide) (AN (by omega))) λa E=>?_;rw[show (c:Int).tdiv 8=((c/8:Nat):Int) from ru c 8]at E;refine bW 6 [6] [0,1,2,4,5,3003,1006,1007,8] E I λa w E I hH hC=>?_;refine RH 6 E I hH hC λa E=>?_;refine SS E (ae E (I.bz (aC.at (by omega)))) λa E=>?_;refine RH 0 E I hH hC λa E=>?_;refine CL 0 E I (Ay (I.pick (Room r b ps)) gF hZ) λa w E I=>?_;rw[wx]at E;refine RN 1 E I λa E=>?_;rw[bn (by omega)]at E;refine bW 2 [6] [0,1,2,4,5,7,8,9,3003,1006,1010,11] E I λa w E I hH hC=>?_;refine RH 6 E I hH hC λa E=>?_;refine QP E (λw=>Ap E (by decide)) λa E=>?_;rw[show (c:Int).tmod 8=((c%8:Nat):Int) from ot c 8]at E;refine RH 2 E I hH hC λa E=>?_;refine SS E (ae E (I.bz (aC.at (by omega)))) λa E=>?_;refine RH 0 E I hH hC λa E=>?_;refine CL 0 E I (D3 (I.pick (Room r b ps)) gF wx (Nat.mod_lt c (by decide))) λa w E I=>?_;refine RN 1 E I λa E=>?_;refine RT 0 E I ?_;rw[show x.cells=aC.cells { x with g:=ck x.g c v } from rfl]at I;exact⟨rfl,ax.uG (B:=A.put i x c v) (last:=A.last) (b:=b) (m:=m) (pb:=pb) (y:={ x with g:=ck x.g c v }) (ps:=ps.set (x.p (c/8)) ⟨λj=>if j=c%8 then v else ps[x.p (c/8)].g j,1⟩) I bd h2 rfl rfl (hw.put hx) (hr.put hx hc h1 v gF)⟩
theorem JK {ps:List Pg}(h:Az ps):j3 ps=ps.length:=by
 rw[j3,List.countP_eq_length];intro p hp;obtain⟨i,hi,rfl⟩:=List.mem_iff_getElem.1 hp;have:=h i hi;simp;omega
theorem Vn {ps:List Pg}{f:Nat}(h:uC ps f):j3 ps<ps.length:=by
 obtain⟨hf,h0,_⟩:=h;have h1:=wk ps;rcases gE (j3 ps) ps.length with h2 | h2
 ·exact h2
 ·have:=(List.countP_eq_length (p:=λp:Pg=>decide (0<p.refs)) (l:=ps)).1 (Nat.le_antisymm h1 h2) _ (iI hf);simp at this;omega
theorem Vo {c:Nat}{v:Int}(I:U W w (ax q r A::L))(hx:A.av[i]?=some x)(hc:c<32)(h1:1<cQ A.av (x.p (c/8)))(hu:A.used<A.room) :
   Calls prog 346 #[pt q,.int .i64 x.id,.int .i64 c,.int .i32 v] w λe V=>∃ f,e=.returned (.bool true)∧(f<A.room∧cQ A.av f=0)∧U W V (ax q r (A.uF i x c v f)::L):=by
 obtain⟨b,m,ps,xs,h2,hw,hr,I⟩:=ax.open I;obtain⟨pb,bd⟩:=qB h2 hx;obtain⟨gF,hZ,s9⟩:=hr.live (bH hx) (k:=c/8) (by omega);have wx:ps[x.p (c/8)].refs=cQ A.av (x.p (c/8)):=hr.refs _ _ (aD gF);rcases D4 ps with b6 | ⟨f,hf⟩
 ·have:=JK b6;rw[hr.used,hr.len]at this;omega
 have ju:=hf.1;have jM:=hf.2.1;have Ee:cQ A.av f=0:=by rw[← hr.refs f _ (aD ju)];exact jM
 have bT:x.p (c/8)≠f:=by
  intro e;rw[e]at h1;omega
 have k7:x.p (c/8)<(ps.set f ⟨ps[x.p (c/8)].g,1⟩).length:=by rw[bt];exact gF
 have e1:(ps.set f ⟨ps[x.p (c/8)].g,1⟩)[x.p (c/8)]=ps[x.p (c/8)]:=List.getElem_set_ne (Ne.symm bT) _;have mF:f<((ps.set f ⟨ps[x.p (c/8)].g,1⟩).set (x.p (c/8)) ⟨ps[x.p (c/8)].g,ps[x.p (c/8)].refs-1⟩).length:=by rw[bt,bt];exact ju
 have e2:((ps.set f ⟨ps[x.p (c/8)].g,1⟩).set (x.p (c/8)) ⟨ps[x.p (c/8)].g,ps[x.p (c/8)].refs-1⟩)[f]=⟨ps[x.p (c/8)].g,1⟩:=by rw[List.getElem_set_ne bT,ou]
 have fE:((ps.set f ⟨ps[x.p (c/8)].g,1⟩).set (x.p (c/8)) ⟨ps[x.p (c/8)].g,ps[x.p (c/8)].refs-1⟩).set f ⟨λj=>if j=c%8 then v else ps[x.p (c/8)].g j,1⟩=(ps.set (x.p (c/8)) ⟨ps[x.p (c/8)].g,ps[x.p (c/8)].refs-1⟩).set f ⟨λj=>if j=c%8 then v else ps[x.p (c/8)].g j,1⟩:=by
  rw[List.set_comm _ _ (Ne.symm bT),set_set]
 refine EN func346 ntmps346 rfl rfl λa E=>?_;refine CL 5 E I (qC I h2 hw bd) λa w E I=>?_;refine RN 6 E I λa E=>?_;replace E:=E.aK 18;refine RN 4 E I λa E=>?_;rw[bn (by omega)]at E;refine RN 3 E I λa E=>?_;rw[bn (by omega)]at E;refine RN 2 E I λa E=>?_;replace I:=I.rF bd;refine RN 2 E I λa E=>?_;refine SS E (wa E (by decide) (AN (by omega))) λa E=>?_;rw[show (c:Int).tdiv 8=((c/8:Nat):Int) from ru c 8]at E;refine bW 6 [6] [0,1,2,4,5,3003,1006,1007,8] E I λa w E I hH hC=>?_;refine RH 6 E I hH hC λa E=>?_;refine SS E (ae E (I.bz (aC.at (by omega)))) λa E=>?_;refine RH 0 E I hH hC λa E=>?_;refine CL 0 E I (Ay (I.pick (Room r b ps)) gF hZ) λa w E I=>?_;refine RN 1 E I λa E=>?_;rw[dp (by omega)]at E;refine bW 2 [6] [0,1,2,4,5,3003,1006,1007,8,9,10,11,12] E I λa w E I hH hC=>?_;refine RH 6 E I hH hC λa E=>?_;refine SS E (ae E (I.bz (aC.at (by omega)))) λa E=>?_;refine RH 0 E I hH hC λa E=>?_;refine CL 0 E I (UG (I.pick (Room r b ps)) gF hZ hf) λa w E I=>?_;refine RN 5 E I λa E=>?_;refine RN 4 E I λa E=>?_;replace E:=E.aK 53;refine bW 2 [6] [0,1,2,4,5,3003,1006,1007] E I λa w E I hH hC=>?_;refine RH 6 E I hH hC λa E=>?_;refine SS E (ae E (I.bz (aC.at (by omega)))) λa E=>?_;refine RH 0 E I hH hC λa E=>?_;refine CL 0 E I (Ji (I.pick (Room r b (ps.set f ⟨ps[x.p (c/8)].g,1⟩))) k7 (by rw[e1];exact hZ)) λa w E I=>?_;rw[e1]at I;refine ST 3 E I (λa w E I=>?_) (hlt:=(by rw[aC.len];omega));rw[aC.UZ (by omega) (ck x.g c v)]at I;refine bW 1 [6] [0,1,2,4,5,7,8,9,3003,1006,1010,11] E I λa w E I hH hC=>?_;refine RH 6 E I hH hC λa E=>?_;refine QP E (λw=>Ap E (by decide)) λa E=>?_;rw[show (c:Int).tmod 8=((c%8:Nat):Int) from ot c 8]at E;refine RH 2 E I hH hC λa E=>?_;refine SS E (ae E (I.bz (aC.at (x:={ x with p:=λj=>if j=c/8 then f else x.p j,g:=ck x.g c v }) (by omega)))) λa E=>?_;simp only[if_true]at E;refine RH 0 E I hH hC λa E=>?_;refine CL 0 E I (D3 (I.pick (Room r b ((ps.set f ⟨ps[x.p (c/8)].g,1⟩).set (x.p (c/8)) ⟨ps[x.p (c/8)].g,ps[x.p (c/8)].refs-1⟩))) mF (by rw[e2]) (Nat.mod_lt c (by decide))) λa w E I=>?_;rw[e2,fE]at I;refine RN 1 E I λa E=>?_;refine RT 0 E I ?_;exact⟨f,rfl,⟨hr.len ▸ ju,Ee⟩,ax.uG (B:=A.uF i x c v f) (last:=A.last) (b:=b) (m:=m) (pb:=pb) (y:={ x with p:=λj=>if j=c/8 then f else x.p j,g:=ck x.g c v }) I bd h2 rfl rfl (hw.put hx) (hr.uF hx hc h1 v gF ju jM)⟩
theorem Vp {c:Nat}{v:Int}(I:U W w (ax q r A::L))(hx:A.av[i]?=some x)(hc:c<32)(h1:1<cQ A.av (x.p (c/8)))(hu:A.room≤A.used) :
   Calls prog 346 #[pt q,.int .i64 x.id,.int .i64 c,.int .i32 v] w λe V=>e=.returned (.bool false)∧U W V (ax q r A::L):=by
 obtain⟨b,m,ps,xs,h2,hw,hr,I⟩:=ax.open I;obtain⟨pb,bd⟩:=qB h2 hx;obtain⟨gF,hZ,s9⟩:=hr.live (bH hx) (k:=c/8) (by omega);have wx:ps[x.p (c/8)].refs=cQ A.av (x.p (c/8)):=hr.refs _ _ (aD gF);rcases D4 ps with b6 | ⟨f,hf⟩
 rotate_left
 ·have:=Vn hf;rw[hr.used,hr.len]at this;omega
 refine EN func346 ntmps346 rfl rfl λa E=>?_;refine CL 5 E I (qC I h2 hw bd) λa w E I=>?_;refine RN 6 E I λa E=>?_;replace E:=E.aK 18;refine RN 4 E I λa E=>?_;rw[bn (by omega)]at E;refine RN 3 E I λa E=>?_;rw[bn (by omega)]at E;refine RN 2 E I λa E=>?_;replace I:=I.rF bd;refine RN 2 E I λa E=>?_;refine SS E (wa E (by decide) (AN (by omega))) λa E=>?_;rw[show (c:Int).tdiv 8=((c/8:Nat):Int) from ru c 8]at E;refine bW 6 [6] [0,1,2,4,5,3003,1006,1007,8] E I λa w E I hH hC=>?_;refine RH 6 E I hH hC λa E=>?_;refine SS E (ae E (I.bz (aC.at (by omega)))) λa E=>?_;refine RH 0 E I hH hC λa E=>?_;refine CL 0 E I (Ay (I.pick (Room r b ps)) gF hZ) λa w E I=>?_;refine RN 1 E I λa E=>?_;rw[dp (by omega)]at E;refine bW 2 [6] [0,1,2,4,5,3003,1006,1007,8,9,10,11,12] E I λa w E I hH hC=>?_;refine RH 6 E I hH hC λa E=>?_;refine SS E (ae E (I.bz (aC.at (by omega)))) λa E=>?_;refine RH 0 E I hH hC λa E=>?_;refine CL 0 E I (UF (I.pick (Room r b ps)) gF hZ b6) λa w E I=>?_;refine RN 5 E I λa E=>?_;refine RN 4 E I λa E=>?_;replace E:=E.eG 53;refine RT 3 E I ?_;exact⟨rfl,ax.uG (b:=b) (m:=m) (ps:=ps) (pb:=pb) (y:=x) I bd h2 rfl (yq hx) hw hr⟩
end
end
end Go.Proofs.YteoldcfapaiobaaGreat
