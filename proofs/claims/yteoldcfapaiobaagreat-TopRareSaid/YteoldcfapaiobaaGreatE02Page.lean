/- The walks of package page. -/
import Derived.Test.YteoldcfapaiobaaGreatE01Row
import Derived.Maps.Own
import Derived.Shelf.SlIterI.Nil
import Derived.Shelf.SortM.Plain
import Derived.Shelf.SortM.SortNone
import Derived.DataShut
namespace Go.Proofs.YteoldcfapaiobaaGreat
open Tryz
open List (mem_cons_self drop_zero take_zero nil_append map_cons set_append_right set_append_left getElem?_cons_succ length_nil mem_range getElem?_toArray getElem?_range ext_getElem eraseIdx_eq_take_drop_succ getElem_set_self eraseIdx_set_eq take_length ext_getElem? mem_or_eq_of_mem_set getElem_mem set_set map_take map_drop mem_singleton map_nil range_succ countP_congr getElem?_set_ne getElem?_set_self set_getElem_self)
open Go.RowKit
set_option linter.unusedVariables false
set_option linter.unusedSimpArgs false
set_option maxRecDepth 10000
set_option synthInstance.maxSize 4000
set_option synthInstance.maxHeartbeats 400000
section
structure Pg where
 g:Nat→Int
 refs:Nat
def Pg.cells (p:Pg):List Value:=ints .i32 8 p.g++[.int .i64 p.refs]
def hW (ps:List Pg):List Value:=rows Pg.cells ps
def sf:Pg:=⟨λ_=>0,0⟩
def o7:Pg:=⟨λ_=>0,1⟩
theorem Pg.len (p:Pg):p.cells.length=9:=by simp[Pg.cells,dd]
theorem vo (ps:List Pg):(hW ps).length=ps.length*9:=ja Pg.len ps
theorem Pg.one (p:Pg):∀ v∈p.cells,v.oneCell'=true:=by
 intro v hv;rcases eP.1 hv with h | h
 ·exact tD v h
 ·simp at h;subst h;rfl
theorem sg {ps:List Pg}{i:Nat}(h:i<ps.length):(hW ps)[i*9+8]?=some (.int .i64 ps[i].refs):=Cy Pg.len ps h (by simp[Pg.cells,dd])
theorem Tq {ps:List Pg}{i k:Nat}(h:i<ps.length)(hk:k<8):(hW ps)[i*9+k]?=some (.int .i32 (ps[i].g k)):=Cy Pg.len ps h (by
 rw[Pg.cells,l4 (by rw[dd];exact hk),fN _ hk])
theorem Ij {ps:List Pg}{i r:Nat}(h:i<ps.length):(hW ps).set (i*9+8) (.int .i64 r)=hW (ps.set i ⟨ps[i].g,r⟩):=p7 Pg.len ps _ h (by decide) (by
 rw[Pg.cells,set_append_right _ _ (by rw[dd];exact a7 _),dd];rfl)
theorem Ts {ps:List Pg}{i k:Nat}{v:Int}(h:i<ps.length)(hk:k<8):(hW ps).set (i*9+k) (.int .i32 v)=hW (ps.set i ⟨λj=>if j=k then v else ps[i].g j,ps[i].refs⟩):=p7 Pg.len ps _ h (by omega) (by
 rw[Pg.cells,set_append_left _ _ (by rw[dd];exact hk),ints_set];rfl)
theorem Tt {ps:List Pg}{i:Nat}(p:Pg)(h:i<ps.length):cG (hW ps) (i*9) p.cells=hW (ps.set i p):=HX Pg.len ps p h
theorem Tu {ps:List Pg}{i:Nat}(h:i<ps.length):((hW ps).drop (i*9)).take 8=ints .i32 8 ps[i].g:=by
 have:=Qz (k:=0) (m:=8) Pg.len ps h (by decide);simp only[Nat.add_zero,drop_zero]at this;rw[hW,this,Pg.cells,List.take_left' (dd _ _ _)]
theorem Tv {ps:List Pg}{i:Nat}{g:Nat→Int}(h:i<ps.length):cG (hW ps) (i*9) (ints .i32 8 g)=hW (ps.set i ⟨g,ps[i].refs⟩):=by
 have:=Qy (k:=0) (vs:=ints .i32 8 g) Pg.len ps ⟨g,ps[i].refs⟩ h (by rw[dd];decide) (by
  simp only[cG,Pg.cells,take_zero,nil_append,dd,Nat.zero_add];rw[List.drop_left' (dd _ _ _)])
 rw[Nat.add_zero]at this;exact this
def Room (q b:Nat)(ps:List Pg):SP:=λh=>(ps.length≤200∧∀ p∈ps,p.refs<4611686018427387904)∧cn [aa q 224 [.slice (some ⟨b,0,none⟩) ps.length ps.length],aa b 227 (hW ps)] h
theorem Room.open {W w:World}{L:List SP}{q b:Nat}{ps:List Pg}(I:U W w (Room q b ps::L)):(ps.length≤200∧∀ p∈ps,p.refs<4611686018427387904) ∧
   U W w (aa q 224 [.slice (some ⟨b,0,none⟩) ps.length ps.length]::aa b 227 (hW ps)::L) :=
 ⟨I.tell λ_ h=>h.1,I.open λ_ h=>h.2⟩
theorem Room.close {W w:World}{L L' R:List SP}{q b n:Nat}{ps:List Pg}(I:U W w L)(hn:ps.length=n)(h:ps.length≤200∧∀ p∈ps,p.refs<4611686018427387904)
   [k:fD L (aa q 224 [.slice (some ⟨b,0,none⟩) n n]::aa b 227 (hW ps)::L') R]:U W w (Room q b ps::L'):=by
 subst hn;exact U.shut (M:=[_,_]) (I.sub (M:=aa q 224 [.slice (some ⟨b,0,none⟩) ps.length ps.length]::aa b 227 (hW ps)::L')) (λ_ x=>⟨h,x⟩)
theorem Tw (n:Nat):(madeCells (Value.cells (.agg #[.int .i32 0,.int .i32 0,.int .i32 0,.int .i32 0,.int .i32 0,.int .i32 0,.int .i32 0,.int .i32 0,.int .i64 0])) (n*9)).toList=hW (List.replicate n sf):=by
 apply ext_getElem?;intro i;by_cases hi:i<n*9
 ·obtain⟨j,k,hk,rfl⟩:∃ j k,k<9∧i=j*9+k:=⟨i/9,i%9,Nat.mod_lt _ (by decide),by omega⟩;have hj:j<(List.replicate n sf).length:=by simp;omega
  have hv:(Pg.cells sf)[k]?=some ((Pg.cells sf)[k]'(by rw[Pg.len];exact hk)):=aE _;rw[hW,Cy Pg.len _ hj (by rw[List.getElem_replicate];exact hv)];simp only[madeCells,Value.cells,Array.toList_map,bm];rw[Array.toList_range,getElem?_range hi];have h1:(j*9+k)%9=k:=by omega
  simp only[Option.map_some,List.size_toArray,eO,length_nil,Nat.reduceAdd,h1,Option.some.injEq];rcases k with _ | _ | _ | _ | _ | _ | _ | _ | _ | k <;> first | rfl | omega
 ·rw[iW,iW]
  ·rw[vo];simp;omega
  ·simp[madeCells];omega
theorem Tx {W w:World}{L:List SP}{n:Nat}(I:U W w L)(hn:n≤200) :
   Calls prog 124 #[.int .i64 n] w λe w'=>∃ q b,e=.returned (pt q)∧U W w' (Room q b (List.replicate n sf)::L):=by
 refine EN func124 ntmps124 rfl rfl λa E=>?_;refine RN 6 E I λa E=>?_;rw[show min (max (n:Int) 0) 200=(n:Int) from by omega]at E;refine qP E rfl I underlying222 Ty.t227 rfl (by omega) (by omega) λcH a w E I ho=>?_;clear ho;rw[Tw]at I;refine BX 1 E I λb8 a w E I=>?_;refine RT 1 E I ?_;refine⟨b8,cH,rfl,(Room.close (n:=_) I ko ⟨by simp;exact hn,?_⟩)⟩;intro p hp;rw[(List.mem_replicate.1 hp).2];decide
section
variable {W w:World}{L:List SP}{q b i:Nat}{ps:List Pg}
theorem sh (I:U W w (Room q b ps::L))(hi:i<ps.length)(hr:0<ps[i].refs) :
   Calls prog 122 #[pt q,.int .i64 ((i:Int)+1)] w λe w'=>e=.returned (.pointer (some ⟨b,i*9,none⟩))∧U W w' (Room q b ps::L):=by
 obtain⟨hp,I⟩:=Room.open I;refine EN func122 ntmps122 rfl rfl λa E=>?_;refine RN 7 E I λa E=>?_;replace E:=E.aM 7;refine RN 4 E I λa E=>?_;rw[bq (by omega)]at E;refine RN 9 E I λa E=>?_;rw[bq (by omega)]at E;refine RN 6 E I λa E=>?_;rw[show (i:Int)+1-1=(i:Int) from by omega]at E;refine RN 2 E I λa E=>?_;refine bo E (b7 E rfl (s:=20)) (ae E (I.bz (sg hi))) rfl λa E=>?_;refine RN 2 E I λa E=>?_;rw[bq (by omega)]at E;refine RN 8 E I λa E=>?_;rw[show (i:Int)+1-1=(i:Int) from by omega]at E;refine RT 2 E I ?_;exact⟨rfl,(Room.close (n:=_) I rfl hp)⟩
theorem U.Ik {R:List SP}{e:Nat}(I:U W w L)[k:fC L b e (hW ps) R](hi:i<ps.length):Rd w b (i*9) (ints .i32 8 ps[i].g):=by
 rw[← Tu hi];exact I.pX 8
theorem U.Tz {R:List SP}{e:Nat}(I:U W w L)[k:fC L b e (hW ps) R](hi:i<ps.length):Rd w b (i*9) ps[i].cells:=by
 rw[← vh Pg.len ps i hi];exact I.pX 9
theorem zu (I:U W w (Room q b ps::L))(hi:i<ps.length)(hr:0<ps[i].refs) :
   Calls prog 86 #[pt q,.int .i64 ((i:Int)+1)] w λe w'=>e=.returned (.int .i64 ps[i].refs)∧U W w' (Room q b ps::L):=by
 refine EN func86 ntmps86 rfl rfl λa E=>?_;refine CL 5 E I (sh I hi hr) λa w E I=>?_;refine RN 5 E I λa E=>?_;replace E:=E.aM 10;refine RN 2 E I λa E=>?_;obtain⟨hp,I⟩:=Room.open I;refine RN 3 E I λa E=>?_;refine SS E (ae E (I.bz (sg hi))) λa E=>?_;refine RT 1 E I ?_;exact⟨rfl,(Room.close (n:=_) I rfl hp)⟩
theorem xm {ps:List Pg}{i r:Nat}{g:Nat→Int}(hp:ps.length≤200∧∀ p∈ps,p.refs<4611686018427387904)(hr:r<4611686018427387904) :
   (ps.set i ⟨g,r⟩).length≤200∧∀ p∈ps.set i ⟨g,r⟩,p.refs<4611686018427387904:=by
 refine⟨by rw[bu];exact hp.1,λp h=>?_⟩;rcases mem_or_eq_of_mem_set h with h | h
 ·exact hp.2 p h
 ·rw[h];exact hr
theorem TA (I:U W w (Room q b ps::L))(hi:i<ps.length)(hr:0<ps[i].refs)(hb:ps[i].refs+1<4611686018427387904) :
   Calls prog 208 #[pt q,.int .i64 ((i:Int)+1)] w λe w'=>e=.returned (.bool true)∧U W w' (Room q b (ps.set i ⟨ps[i].g,ps[i].refs+1⟩)::L):=by
 refine EN func208 ntmps208 rfl rfl λa E=>?_;refine CL 5 E I (sh I hi hr) λa w E I=>?_;refine RN 5 E I λa E=>?_;replace E:=E.eh 10;refine RN 1 E I λa E=>?_;obtain⟨hp,I⟩:=Room.open I;refine RN 3 E I λa E=>?_;refine SS E (ae E (I.bz (sg hi))) λa E=>?_;refine ST 3 E I (λa w E I=>?_) (hlt:=(by rw[vo];omega));rw[show ((ps[i].refs:Int)+1)=((ps[i].refs+1:Nat):Int) from rfl,Ij hi]at I;refine RT 4 E I ?_;exact⟨rfl,(Room.close (n:=ps.length) I bu (xm hp hb))⟩
theorem Il (I:U W w (Room q b ps::L))(hi:i<ps.length)(hr:0<ps[i].refs) :
   Calls prog 213 #[pt q,.int .i64 ((i:Int)+1)] w λe w'=>e=.returned (.bool true)∧U W w' (Room q b (ps.set i ⟨ps[i].g,ps[i].refs-1⟩)::L):=by
 refine EN func213 ntmps213 rfl rfl λa E=>?_;refine CL 5 E I (sh I hi hr) λa w E I=>?_;refine RN 5 E I λa E=>?_;replace E:=E.eh 10;refine RN 1 E I λa E=>?_;obtain⟨hp,I⟩:=Room.open I;have hb:=hp.2 _ (getElem_mem hi);refine RN 3 E I λa E=>?_;refine SS E (ae E (I.bz (sg hi))) λa E=>?_;refine ST 3 E I (λa w E I=>?_) (hlt:=(by rw[vo];omega));rw[show ((ps[i].refs:Int)-1)=((ps[i].refs-1:Nat):Int) from by omega,Ij hi]at I;refine RT 4 E I ?_;exact⟨rfl,(Room.close (n:=ps.length) I bu (xm hp (by omega)))⟩
theorem TB {k:Nat}(I:U W w (Room q b ps::L))(hi:i<ps.length)(hr:0<ps[i].refs)(hk:k<8) :
   Calls prog 323 #[pt q,.int .i64 ((i:Int)+1),.int .i64 k] w λe w'=>e=.returned (.tuple #[.int .i32 (ps[i].g k),.bool true])∧U W w' (Room q b ps::L):=by
 refine EN func323 ntmps323 rfl rfl λa E=>?_;refine CL 6 E I (sh I hi hr) λa w E I=>?_;refine RN 6 E I λa E=>?_;replace E:=E.aM 14;refine RN 4 E I λa E=>?_;rw[bq (by omega)]at E;refine RN 3 E I λa E=>?_;rw[bq (by omega)]at E;refine RN 2 E I λa E=>?_;obtain⟨hp,I⟩:=Room.open I;refine RN 5 E I λa E=>?_;refine SS E (ae E (I.bz (Tq hi hk))) λa E=>?_;refine RT 2 E I ?_;exact⟨rfl,(Room.close (n:=_) I rfl hp)⟩
theorem CR {k:Nat}{v:Int}(I:U W w (Room q b ps::L))(hi:i<ps.length)(hr:ps[i].refs=1)(hk:k<8) :
   Calls prog 128 #[pt q,.int .i64 ((i:Int)+1),.int .i64 k,.int .i32 v] w λe w'=>e=.returned (.bool true)∧U W w' (Room q b (ps.set i ⟨λj=>if j=k then v else ps[i].g j,1⟩)::L):=by
 refine EN func128 ntmps128 rfl rfl λa E=>?_;refine CL 5 E I (sh I hi (by omega)) λa w E I=>?_;refine RN 6 E I λa E=>?_;replace E:=E.aM 15;refine RN 4 E I λa E=>?_;rw[bq (by omega)]at E;refine RN 4 E I λa E=>?_;obtain⟨hp,I⟩:=Room.open I;rw[bq (by omega)]at E;refine RN 3 E I λa E=>?_;refine bo E (b7 E rfl (s:=23)) (ae E (I.bz (sg hi))) rfl λa E=>?_;refine RN 2 E I λa E=>?_;rw[bq (by omega)]at E;refine ST 8 E I (λa w E I=>?_) (hlt:=(by rw[vo];omega));rw[Ts hi hk,hr]at I;refine RT 2 E I ?_;exact⟨rfl,(Room.close (n:=ps.length) I bu (xm hp (by omega)))⟩
def tH (ps:List Pg)(i:Nat):Prop:=∃ h:i<ps.length,ps[i].refs=0∧∀ j,(hj:j<i)→0<ps[j].refs
def zw (ps:List Pg):Prop:=∀ j,(h:j<ps.length)→0<ps[j].refs
theorem CS (ps:List Pg):zw ps∨∃ i,tH ps i:=by
 have aux:∀ n,(∀ j,(h:j<ps.length)→j<n→0<ps[j].refs)∨∃ i,tH ps i:=by
  intro n
  induction n with
  | zero=>exact .inl λj _ h=>by omega
  | succ n ih =>
   rcases ih with h | h
   ·by_cases hn:n<ps.length
    ·by_cases h0:ps[n].refs=0
     ·exact .inr ⟨n,hn,h0,λj hj=>h j (by omega) hj⟩
     ·refine .inl λj hj p8=>?_;rcases Nat.lt_or_ge j n with h1 | h1
      ·exact h j hj h1
      ·obtain rfl:j=n:=by omega
       omega
    ·exact .inl λj hj p8=>h j hj (by omega)
   ·exact .inr h
 rcases aux ps.length with h | h
 ·exact .inl λj hj=>h j hj hj
 ·exact .inr h
theorem Im (I:U W w (Room q b ps::L))(hf:tH ps i) :
   Calls prog 126 #[pt q] w λe w'=>e=.returned (.tuple #[.int .i64 ((i:Int)+1),.bool true])∧U W w' (Room q b (ps.set i o7)::L):=by
 obtain⟨hi,h0,CT⟩:=hf;obtain⟨hp,I⟩:=Room.open I;refine EN func126 ntmps126 rfl rfl λa E=>?_;refine RN 7 E I λa E=>?_;replace E:=E.aM 6;refine RN 9 E I λa E=>?_;refine aO (λμ a w=>∃ k:Nat,(μ=i-k∧k≤i)∧Fr a 34 [(0,pt q),(11,.int .i64 ps.length),(12,.int .i64 k)]∧U W w (aa q 224 [.slice (some ⟨b,0,none⟩) ps.length ps.length]::aa b 227 (hW ps)::L)) (i) (⟨0,⟨by simp,by simp⟩,E.ab [0,11,12],I.sub⟩) ?_;clear E I;rintro μ a w ⟨k,⟨rfl,hk⟩,E,I⟩;refine RN 3 E I λa E=>?_;rw[dg (by omega)]at E;refine RN 13 E I λa E=>?_;refine SS E (ae E (I.bz (sg (by omega)))) λa E=>?_;refine IF 1 E I (λay a E=>?_) λay a E=>?_
 ·
  obtain rfl : k = i := by
      rcases Nat.lt_or_ge k i with h | h
      ·have:=CT k h;omega
      ·omega
  refine RN 8 E I λa E=>?_;refine qK E rfl I Ty.t227 (by simp[Value.oneCell']) (by rw[vo];simp;omega) λa w E I=>?_;replace I:=I.jJ b;change U W w (aa b 227 (cG (hW ps) (k*9) o7.cells)::_) at I;rw[Tt o7 hi]at I;refine RT 5 E I ?_;exact⟨rfl,(Room.close (n:=ps.length) I bu (xm (g:=λ_=>0) (r:=1) hp (by omega)))⟩
 have HN : k < i := by
     rcases Nat.lt_or_ge k i with h | h
     ·exact h
     ·obtain rfl:k=i:=by omega
      omega
 refine RN 2 E I λa E=>?_;exact⟨i-(k+1),by omega,k+1,⟨rfl,by omega⟩,E.ab [0,11,12],I.sub⟩
theorem TC (I:U W w (Room q b ps::L))(hf:zw ps) :
   Calls prog 126 #[pt q] w λe w'=>e=.returned (.tuple #[.int .i64 0,.bool false])∧U W w' (Room q b ps::L):=by
 obtain⟨hp,I⟩:=Room.open I;refine EN func126 ntmps126 rfl rfl λa E=>?_;refine RN 7 E I λa E=>?_;replace E:=E.aM 6;refine RN 9 E I λa E=>?_;refine aO (λμ a w=>∃ k:Nat,(μ=ps.length-k∧k≤ps.length)∧Fr a 34 [(0,pt q),(11,.int .i64 ps.length),(12,.int .i64 k)]∧U W w (aa q 224 [.slice (some ⟨b,0,none⟩) ps.length ps.length]::aa b 227 (hW ps)::L)) (ps.length) (⟨0,⟨by simp,by simp⟩,E.ab [0,11,12],I.sub⟩) ?_;clear E I;rintro μ a w ⟨k,⟨rfl,hk⟩,E,I⟩;refine IF 3 E I (λao a E=>?_) λao a E=>?_
 ·
  refine RN 12 E I λa E=>?_;have cd:=hf k (by omega);refine SS E (ae E (I.bz (sg (by omega)))) λa E=>?_;refine RN 1 E I λa E=>?_;rw[bq (by omega)]at E;refine RN 3 E I λa E=>?_;exact⟨ps.length-(k+1),by omega,k+1,⟨rfl,by omega⟩,E.ab [0,11,12],I.sub⟩
 refine RT 3 E I ?_;exact⟨rfl,(Room.close (n:=_) I rfl hp)⟩
theorem TD (I:U W w (Room q b ps::L))(hi:i<ps.length)(hr:0<ps[i].refs)(hf:zw ps) :
   Calls prog 347 #[pt q,.int .i64 ((i:Int)+1)] w λe w'=>e=.returned (.tuple #[.int .i64 0,.bool false])∧U W w' (Room q b ps::L):=by
 refine EN func347 ntmps347 rfl rfl λa E=>?_;refine CL 6 E I (sh I hi hr) λa w E I=>?_;refine RN 5 E I λa E=>?_;replace E:=E.aM 13;refine CL 3 E I (TC I hf) λa w E I=>?_;refine RN 8 E I λa E=>?_;replace E:=E.aM 19;refine RT 6 E I ?_;exact⟨rfl,I⟩
theorem TF {k:Nat}(I:U W w (Room q b ps::L))(hi:i<ps.length)(hr:0<ps[i].refs)(hf:tH ps k) :
   Calls prog 347 #[pt q,.int .i64 ((i:Int)+1)] w λe w'=>e=.returned (.tuple #[.int .i64 ((k:Int)+1),.bool true])∧U W w' (Room q b (ps.set k ⟨ps[i].g,1⟩)::L):=by
 have hk:=hf.1;have bD:k≠i:=by
  rintro rfl;obtain⟨_,h,_⟩:=hf;omega
 have dM:k<(ps.set k o7).length:=by rw[bu];exact hk
 have aH:i<(ps.set k o7).length:=by rw[bu];exact hi
 have e1:(ps.set k o7)[k]=o7:=by rw[getElem_set_self]
 have e2:(ps.set k o7)[i]=ps[i]:=by rw[List.getElem_set_ne bD]
 refine EN func347 ntmps347 rfl rfl λa E=>?_;refine CL 6 E I (sh I hi hr) λa w E I=>?_;refine RN 5 E I λa E=>?_;replace E:=E.aM 13;refine CL 3 E I (Im I hf) λa w E I=>?_;refine RN 8 E I λa E=>?_;replace E:=E.eh 19;refine aV 1 (λw0 w'=>Rd w' b (i*9) (ints .i32 8 ps[i].g)) [2] [0,1,3,4,5,3006,1002,7,8,1009] E I λa w E I hH=>?_
 have hC : Rd w b (i * 9) (ints .i32 8 ps[i].g) := by
     have:=U.Ik (b:=b) (e:=227) (Room.open I).2 aH
     rwa [e2]at this
 refine RH 5 E I hH hC λa E=>?_;refine QH E (λw hc=>bS E underlying225 rfl Ty.t225 (hc)) hC λa E=>?_;refine RH 0 E I hH hC λa E=>?_;refine CL 0 E I (sh I dM (by rw[e1];decide)) λa w E I=>?_
 replace hC : (fun w' => Rd w' b (i * 9) (ints .i32 8 ps[i].g)) w := by
     have:=U.Ik (b:=b) (e:=227) (Room.open I).2 aH
     rwa [e2]at this
 refine RH 2 E I hH hC λa E=>?_;obtain⟨hp,I⟩:=Room.open I;refine qK E rfl I Ty.t225 tD (by rw[vo,dd];omega) λa w E I=>?_;rw[Tv dM,set_set,e1,show o7.refs=1 from rfl]at I;refine RT 5 E I ?_;exact⟨rfl,(Room.close (n:=(ps.set k o7).length) I (by rw[bu,bu]) (by have:=xm (g:=ps[i].g) (r:=1) (i:=k) hp (by decide);rwa [set_set]at this))⟩
def jQ (ps:List Pg):Nat:=ps.countP λp=>decide (0<p.refs)
theorem vp (ps:List Pg):jQ ps≤ps.length:=List.countP_le_length
theorem TG {ps:List Pg}{k:Nat}(h:k<ps.length):jQ (ps.take (k+1))=jQ (ps.take k)+if 0<ps[k].refs then 1 else 0:=by
 rw[jQ,jd h,List.countP_append,jQ,List.countP_singleton];by_cases h:0<ps[k].refs <;> simp[h]
theorem Io (I:U W w (Room q b ps::L)) :
   Calls prog 84 #[pt q] w λe w'=>e=.returned (.int .i64 (jQ ps))∧U W w' (Room q b ps::L):=by
 obtain⟨hp,I⟩:=Room.open I;refine EN func84 ntmps84 rfl rfl λa E=>?_;refine RN 6 E I λa E=>?_;replace E:=E.aM 7;refine RN 11 E I λa E=>?_;refine aO (λμ a w=>∃ k:Nat,(μ=ps.length-k∧k≤ps.length)∧Fr a 24 [(3,.int .i64 (jQ (ps.take k))),(11,.slice (some ⟨b,0,none⟩) ps.length ps.length),(12,.int .i64 ps.length),(13,.int .i64 k)]∧U W w (aa q 224 [.slice (some ⟨b,0,none⟩) ps.length ps.length]::aa b 227 (hW ps)::L)) (ps.length) (⟨0,⟨by simp,by simp⟩,E.ab [3,11,12,13],I.sub⟩) ?_;clear E I;rintro μ a w ⟨k,⟨rfl,hk⟩,E,I⟩;have o8:=vp (ps.take k);rw[ep]at o8;refine IF 3 E I (λao a E=>?_) λao a E=>?_
 ·
  have mc:k<ps.length:=by omega
  have zx:=TG mc;refine RN 3 E I λa E=>?_;refine SS E (bS E underlying227 rfl Ty.t227 (I.Tz mc)) λa E=>?_;refine AL 0 E I λb5 a w E I=>?_;refine RN 0 E I λa E=>?_;refine qK E rfl I Ty.t227 (Pg.one _) (by rw[Pg.len];exact a7 _) λa w E I=>?_;rw[show cG _ 0 ps[k].cells=ps[k].cells from by simp[cG,Pg.len]]at I;refine RN 2 E I λa E=>?_;refine SS E (ae E (I.bz (show ps[k].cells[8]?=some (.int .i64 ps[k].refs) from by simp[Pg.cells,dd]))) λa E=>?_;refine IF 1 E I (λay a E=>?_) λay a E=>?_
  ·
   rw[ak (by omega)]at zx;refine RN 5 E I λa E=>?_;exact⟨ps.length-(k+1),by omega,k+1,⟨rfl,by omega⟩,by rw[zx];exact E.ab [3,11,12,13],I.sub⟩
  rw[ag (by omega)]at zx;refine RN 2 E I λa E=>?_;exact⟨ps.length-(k+1),by omega,k+1,⟨rfl,by omega⟩,by rw[zx];exact E.ab [3,11,12,13],I.sub⟩
 refine RT 3 E I ?_;obtain rfl:k=ps.length:=by omega
 rw[take_length];exact⟨rfl,(Room.close (n:=_) I rfl hp)⟩
theorem TH (I:U W w (Room q b ps::L)) :
   Calls prog 166 #[pt q] w λe w'=>e=.returned (.int .i64 ((ps.length-jQ ps:Nat):Int))∧U W w' (Room q b ps::L):=by
 have o8:=vp ps;have hp:=(Room.open I).1;refine EN func166 ntmps166 rfl rfl λa E=>?_;refine RN 6 E I λa E=>?_;replace E:=E.aM 4;refine aV 2 (λw0 w'=>w'.cell? ⟨q,0,none⟩=some (.slice (some ⟨b,0,none⟩) ps.length ps.length)) [6] [0,1,2,5,3003,4,1006,7,8] E I λa w E I hH=>?_;have hC:=hH.at w ((Room.open I).2.bz rfl);refine RH 4 E I hH hC λa E=>?_;refine QH E (λw hc=>ae E (hc)) hC λa E=>?_;refine RH 1 E I hH hC λa E=>?_;refine CL 0 E I (Io I) λa w E I=>?_;replace hC:=hH.at w ((Room.open I).2.bz rfl);refine RH 2 E I hH hC λa E=>?_;refine RT 0 E I ?_;exact⟨by rw[show ((ps.length-jQ ps:Nat):Int)=(ps.length:Int)-(jQ ps:Int) from by omega],I⟩
end
end
section
def lJ (es:Array MapEntry)(clock:Nat)(kvs:List (Int×Value)):Prop :=
 es.toList.map (λe=>(e.key,e.val))=kvs.map (λp=>(Value.int .i64 p.1,p.2))∧MapKept.Stamped es clock∧∀ p∈kvs,(Lit.int .i64 p.1).wf=true
def mp (b:Nat)(kvs:List (Int×Value)):SP:=λh=>∃ es clock,h b=some (.map es clock)∧lJ es clock kvs
def mR:List (Int×Value)→Int→Nat→Option (Nat×Value)
 | [],_,_=>none
 | p::r,k,i=>if p.1=k then some (i,p.2) else mR r k (i+1)
theorem Ip {kvs:List (Int×Value)}{k:Int}(h:∀ p∈kvs,p.1≠k):∀ i,mR kvs k i=none:=by
 induction kvs with
 | nil=>intro i;rfl
 | cons p r ih =>
  intro i;rw[mR,ag (h p mem_cons_self)];exact ih (λq hq=>h q (gM _ hq)) _
theorem TJ {kvs:List (Int×Value)}{k:Int}{v:Value}:∀ {j:Nat} (i:Nat),kvs[j]?=some (k,v)→(∀ j',j'<j→∀ p,kvs[j']?=some p→p.1≠k)→mR kvs k i=some (i+j,v):=by
 induction kvs with
 | nil=>intro j i h;simp at h
 | cons p r ih =>
  intro j i h hl;cases j with
  | zero=>simp at h;subst h;simp[mR]
  | succ j =>
   rw[mR,ag (hl 0 (by omega) p rfl),ih (i+1) (by simpa using h) (λj' hj q hq=>hl (j'+1) (by omega) q (by simpa using hq))];rw[show i+1+j=i+(j+1) from by omega]
theorem Iq (k:Int):∀ (es:List MapEntry) (kvs:List (Int×Value)) (i:Nat),es.map (λe=>(e.key,e.val))=kvs.map (λp=>(Value.int .i64 p.1,p.2))→Instr.findNow (.int .i64) (.int .i64 k) es i=some (mR kvs k i)
 | [],[],i,_=>rfl
 | [],_::_,_,h=>by simp at h
 | _::_,[],_,h=>by simp at h
 | e::es,p::kvs,i,h=>by
  simp only[map_cons,List.cons.injEq,Prod.mk.injEq]at h;obtain⟨⟨h1,h2⟩,h3⟩:=h;simp only[Instr.findNow,h1,Instr.sameNow,mR];by_cases hk:p.1=k
  ·simp[hk,h2]
  ·have:(k==p.1)=false:=by simp;exact λe=>hk e.symm
   simp only[this,ag hk];exact Iq k es kvs (i+1) h3
theorem xn {α β:Type}(f:α→β)(l:List α)(i:Nat):(l.eraseIdx i).map f=(l.map f).eraseIdx i:=by
 simp only[eraseIdx_eq_take_drop_succ,cW,map_take,map_drop]
section
variable {W w:World}{L:List SP}{b:Nat}{kvs:List (Int×Value)}
theorem U.zy (I:U W w (mp b kvs::L)):∃ es clock,lJ es clock kvs∧U W w (kG b (.map es clock)::L):=by
 obtain⟨⟨es,clock⟩,h1,h2⟩:=I.jy (ι:=Array MapEntry×Nat) (p:=λi=>lJ i.1 i.2 kvs) (B:=λi=>kG b (.map i.1 i.2)) (λh ⟨es,clock,h1,h2⟩=>⟨(es,clock),h2,h1⟩);exact⟨es,clock,h1,h2⟩
theorem U.CU {es:Array MapEntry}{clock:Nat}(I:U W w (kG b (.map es clock)::L))(h:lJ es clock kvs):U W w (mp b kvs::L) :=
 U.shut (M:=[_]) I (λ_ x=>by
  obtain⟨_,_,_,a,_,y,_⟩:=x;exact⟨es,clock,a _ _ y,h⟩)
theorem lJ.nil:lJ #[] 0 []:=⟨rfl,⟨by simp,by simp,by simp⟩,by simp⟩
theorem lJ.push {es:Array MapEntry}{clock:Nat}{k:Int}{v:Value}(h:lJ es clock kvs)(hw:(Lit.int .i64 k).wf=true)(hn:∀ p∈kvs,p.1≠k):lJ (es.push ⟨.int .i64 k,v,clock⟩) (clock+1) (kvs++[(k,v)]):=by
 obtain⟨h1,⟨h2,h3,h4⟩,h5⟩:=h;refine⟨by simp[h1],⟨λx hx=>?_,?_,?_⟩,λp hp=>?_⟩
 ·simp only[Array.toList_push,eP,mem_singleton]at hx;rcases hx with hx | rfl
  ·have:=h2 x hx;omega
  ·exact Nat.lt_succ_self _
 ·simp only[Array.toList_push,cW,map_cons,map_nil];refine List.nodup_append.2 ⟨h3,by simp,λx hx y hy=>?_⟩;simp only[cV]at hx;obtain⟨e,he,rfl⟩:=hx;have:=h2 e he;simp at hy;omega
 ·simp only[Array.toList_push,cW,map_cons,map_nil];refine List.nodup_append.2 ⟨h4,by simp,λx hx y hy=>?_⟩;simp only[cV]at hx;obtain⟨e,he,rfl⟩:=hx;have hm:(e.key,e.val)∈es.toList.map (λe=>(e.key,e.val)):=cV.2 ⟨e,he,rfl⟩;rw[h1]at hm;obtain⟨p,hp,o9⟩:=cV.1 hm;simp only[Prod.mk.injEq]at o9;simp at hy;rw[hy,← o9.1];intro e2;simp at e2;exact hn p hp e2
 ·rcases eP.1 hp with h | h
  ·exact h5 p h
  ·simp at h;subst h;exact hw
theorem lJ.erase {es:Array MapEntry}{clock:Nat}(h:lJ es clock kvs)(i:Nat):lJ (es.eraseIdxIfInBounds i) clock (kvs.eraseIdx i):=by
 obtain⟨h1,⟨h2,h3,h4⟩,h5⟩:=h;have ht:(es.eraseIdxIfInBounds i).toList=es.toList.eraseIdx i:=by simp[Array.toList_eraseIdxIfInBounds]
 have hm:∀ {β:Type} (f:MapEntry→β),(es.toList.eraseIdx i).map f=(es.toList.map f).eraseIdx i:=λf=>xn f _ i;refine⟨by rw[ht,hm,h1,xn],⟨λx hx=>h2 x (List.mem_of_mem_eraseIdx (ht ▸ hx)),?_,?_⟩,λp hp=>h5 p (List.mem_of_mem_eraseIdx hp)⟩
 ·rw[ht,hm];exact h3.sublist (List.eraseIdx_sublist _ _)
 ·rw[ht,hm];exact h4.sublist (List.eraseIdx_sublist _ _)
end
section
variable {P:Program}{ops:Array Oper}{Q:Exit→Act→World→Prop}{a:Act}{w w' W:World}{K:Act→World→Prop}{n d:Nat}{l:List (Nat×Value)}{v:Value}{L R:List SP}{kvs:List (Int×Value)}
class sj (L:List SP)(b:Nat)(kvs:outParam (List (Int×Value)))(R:outParam (List SP)):Prop where perm:L.Perm (mp b kvs::R)
instance sj.head {L b kvs}:sj (mp b kvs::L) b kvs L:=⟨List.Perm.refl _⟩
instance (priority:=low) sj.tail {A L b kvs R}[h:sj L b kvs R]:sj (A::L) b kvs (A::R):=⟨(List.Perm.cons A h.perm).trans (List.Perm.swap _ _ _)⟩
theorem Ir {b:Nat}{es Is:Array MapEntry}{c c':Nat}(h:w.heap[b]?=some (.map es c)):(setObj b (.map Is c')).run P w=.ok () (ChangeMaps.setBlock w b (.map Is c')):=by
 simp only[setObj,Sem.run,h];rfl
theorem TL {kt:TypeId}{em:Bool}{k:Int}(hk:P.underlying kt=some (.int .i64))(n:Nat):(Instr.checkKey em (n+1) kt (.int .i64 k)).run P w=.ok () w:=by
 simp only[Instr.checkKey,Sem.run_bind,eL hk,Result.andThen_ok];rfl
theorem CV {kt:TypeId}{em:Bool}{k:Int}(hk:P.underlying kt=some (.int .i64)):(Instr.checkKey em 10000 kt (.int .i64 k)).run P w=.ok () w :=
 TL hk 9999
theorem CW {es:Array MapEntry}{clock:Nat}{kt:TypeId}{k:Int}(hk:P.underlying kt=some (.int .i64))(h:lJ es clock kvs):(Instr.findKey kt (.int .i64 k) es.toList).run P w=.ok (mR kvs k 0) w:=by
 simp[Instr.findKey,eL hk,Iq k es.toList kvs 0 h.1]
theorem TM {t ty ps af g}(E:Fr a n l)(hw:Region.wanted ⟨some d,.makeMap t none,ty,ps,af,g⟩ (yielded ops a.tmps)=true)(I:U W w L)(hf:okB d n l=true)
   (h:∀ b a' w',Fr a' n ((d,.map (some b))::l)→U W w' (mp b []::L)→Old w w'→K a' w'):cI P ops Q ⟨some d,.makeMap t none,ty,ps,af,g⟩ K a w:=by
 refine bo (v:=.map (some w.heap.size)) (w':=w.alloc (.map #[] 0)) E hw ?_ hf (λa' db=>h _ _ _ db (U.CU (I.alloc (.map #[] 0)) lJ.nil) (Old.alloc _ _));simp[execOp,Instr.makeMap,newObj,Sem.run]
theorem It {x y b t kt sk k z sz a1 dst ty ps af g}{R:List SP}(E:Fr a n l)(ht:P.underlying t=some (.map kt sk))(hk:P.underlying kt=some (.int .i64))(hi:TI P sk z sz a1)(I:U W w L)
   [ev:Ev l x (.map (some b))] [gV:Ev l y (.int .i64 k)] [pk:sj L b kvs R] (hv:((mR kvs k 0).map (·.2)).getD z=v) :
   (execOp a.eval ⟨dst,.lookup t x y false,ty,ps,af,g⟩).run P w=.ok (.value v) w:=by
 obtain⟨es,clock,h1,h2⟩:=(I.perm pk.perm).zy;have hg:=MapKept.run_getObj_map (P:=P) h2.has.2;have h3:(Instr.lookup t (.map (some b)) (.int .i64 k) false).run P w=.ok v w:=by
  simp only[Instr.lookup,Sem.run_bind,eL ht,Result.andThen_ok,hg];simp only[Sem.run_pure,Result.andThen_ok,CV hk,CW hk h1];cases hf:mR kvs k 0 with
  | none=>rw[hf]at hv;simp at hv;simp[tv hi,hv]
  | some p=>rw[hf]at hv;simp at hv;simp[hv]
 simp[execOp,ev.ev a n E,gV.ev a n E,h3]
theorem TO {x y u b t kt sk k ty ps af g}{R:List SP}(E:Fr a n l)(hw:Region.wanted ⟨none,.mapUpdate t x y u,ty,ps,af,g⟩ (yielded ops a.tmps)=true)(I:U W w L)
   (ht:P.underlying t=some (.map kt sk)) (hk:P.underlying kt=some (.int .i64)) [ev:Ev l x (.map (some b))] [gV:Ev l y (.int .i64 k)] [tx:Ev l u v] [pk:sj L b kvs R]
   (zA:(Lit.int .i64 k).wf=true) (hn:∀ p∈kvs,p.1≠k)
   (h:∀ a' w',Fr a' n l→U W w' (mp b (kvs++[(k,v)])::R)→K a' w'):cI P ops Q ⟨none,.mapUpdate t x y u,ty,ps,af,g⟩ K a w:=by
 obtain⟨es,clock,h1,h2⟩:=(I.perm pk.perm).zy;have hg:=MapKept.run_getObj_map (P:=P) h2.has.2;have hb:b<w.heap.size:=(Array.getElem?_eq_some_iff.1 h2.has.2).1;have h3:(Instr.mapUpdate t (.map (some b)) (.int .i64 k) v).run P w=.ok () (ChangeMaps.setBlock w b (.map (es.push ⟨.int .i64 k,v,clock⟩) (clock+1))):=by
  simp only[Instr.mapUpdate,Sem.run_bind,eL ht,Result.andThen_ok,hg];simp only[Sem.run_pure,Result.andThen_ok,CV hk,CW hk h1,Ip hn];simp[Ir h2.has.2]
 have h4:=h2.ck (o':=.map (es.push ⟨.int .i64 k,v,clock⟩) (clock+1)) (w':=ChangeMaps.setBlock w b (.map (es.push ⟨.int .i64 k,v,clock⟩) (clock+1))) rfl rfl rfl rfl;refine Cj (w':=ChangeMaps.setBlock w b (.map (es.push ⟨.int .i64 k,v,clock⟩) (clock+1))) E hw ?_ (λa' db=>h a' _ db (h4.CU (h1.push zA hn)));simp[execOp,ev.ev a n E,gV.ev a n E,tx.ev a n E,h3]
theorem TP {x y b t kt sk k i ty ps af g}{R:List SP}(E:Fr a n l)(hw:Region.wanted ⟨none,.call ⟨.builtin .delete,#[x,y],#[t,kt]⟩,ty,ps,af,g⟩ (yielded ops a.tmps)=true)(I:U W w L)
   (ht:P.underlying t=some (.map kt sk)) (hk:P.underlying kt=some (.int .i64)) [ev:Ev l x (.map (some b))] [gV:Ev l y (.int .i64 k)] [pk:sj L b kvs R] (hi:mR kvs k 0=some (i,v))
   (h:∀ a' w',Fr a' n l→U W w' (mp b (kvs.eraseIdx i)::R)→K a' w'):cI P ops Q ⟨none,.call ⟨.builtin .delete,#[x,y],#[t,kt]⟩,ty,ps,af,g⟩ K a w:=by
 obtain⟨es,clock,h1,h2⟩:=(I.perm pk.perm).zy;have hg:=MapKept.run_getObj_map (P:=P) h2.has.2;have hb:b<w.heap.size:=(Array.getElem?_eq_some_iff.1 h2.has.2).1;have h3:(Builtin.delete_ #[t,kt] ty #[.map (some b),.int .i64 k]).run P w=.ok (.tuple #[]) (ChangeMaps.setBlock w b (.map (es.eraseIdxIfInBounds i) clock)):=by
  simp only[Builtin.delete_,getElem?_toArray,List.getElem?_cons_zero,getElem?_cons_succ];simp only[Sem.run_bind,eL ht,Result.andThen_ok,hg];simp only[Sem.run_pure,Result.andThen_ok,CV hk,CW hk h1,hi];simp[Ir h2.has.2]
 have h4:=h2.ck (o':=.map (es.eraseIdxIfInBounds i) clock) (w':=ChangeMaps.setBlock w b (.map (es.eraseIdxIfInBounds i) clock)) rfl rfl rfl rfl;refine Ci (v:=.tuple #[]) (w':=ChangeMaps.setBlock w b (.map (es.eraseIdxIfInBounds i) clock)) E hw ?_ (λa' db=>h a' _ db (h4.CU (h1.erase i)));simp[execOp,resolve,ev.ev a n E,gV.ev a n E,invoke,builtin,h3]
end
end
section
open Go.RowKit Go.Maps Go.Sort Go.Shelf
def Lay.Iu:Go.Shelf.Ren:=⟨fun | 7=>119 | 10=>164 | n=>n,fun | 23=>218 | 26=>166 | 3=>219 | 28=>216 | 0=>0 | 27=>215 | 33=>284 | 4=>4 | n=>n,fun | n=>n⟩
theorem Lay.Iv:Go.Proofs.SlLaysZI.n7 prog Lay.Iu:={
 mixed:=by kernel_rfl
 f7:=⟨f119.name,by decide,func119.trans (congrArg some (by kernel_rfl))⟩
 f10:=⟨f164.name,by decide,func164.trans (congrArg some (by kernel_rfl))⟩
 t0:=underlying0
 a0:=isAgg0
 z0:=sizeOf0
 v0:=zeroValue0
 t4:=underlying4
 a4:=isAgg4
 z4:=sizeOf4
 v4:=zeroValue4
 t23:=underlying218
 a23:=isAgg218
 z23:=sizeOf218
 v23:=zeroValue218
 t26:=underlying166
 a26:=isAgg166
 z26:=sizeOf166
 v26:=zeroValue166
 t27:=underlying215
 a27:=isAgg215
 z27:=sizeOf215
 v27:=zeroValue215
 t28:=underlying216
 a28:=isAgg216
 z28:=sizeOf216
 v28:=zeroValue216
 t33:=underlying284
 a33:=isAgg284
 z33:=sizeOf284
 v33:=zeroValue284 }
def Lay.Iw:Go.Shelf.Ren:=⟨fun | 6=>118 | 8=>162 | 9=>163 | 11=>194 | 13=>196 | 12=>195 | 23=>226 | 24=>227 | 14=>217 | 15=>218 | 16=>219 | 17=>220 | 18=>221 | 19=>222 | 20=>223 | 21=>224 | 22=>225 | 25=>233 | 26=>234 | 27=>235 | 28=>236 | 29=>237 | 30=>238 | 31=>243 | n=>n,fun | 26=>166 | 28=>216 | 24=>160 | 0=>0 | 3=>3 | 37=>314 | 48=>100 | 50=>319 | 4=>4 | 40=>352 | 39=>351 | 45=>248 | 5=>5 | 9=>9 | 51=>366 | 55=>370 | 57=>375 | 58=>376 | 33=>284 | n=>n,fun | n=>n⟩
theorem Lay.TQ:Go.Proofs.SlLaysZI.n6 prog Lay.Iw:={
 mixed:=by kernel_rfl
 f6:=⟨f118.name,by decide,func118.trans (congrArg some (by kernel_rfl))⟩
 f8:=⟨f162.name,by decide,func162.trans (congrArg some (by kernel_rfl))⟩
 f11:=⟨f194.name,by decide,func194.trans (congrArg some (by kernel_rfl))⟩
 t0:=underlying0
 a0:=isAgg0
 z0:=sizeOf0
 v0:=zeroValue0
 t24:=underlying160
 a24:=isAgg160
 z24:=sizeOf160
 v24:=zeroValue160
 t26:=underlying166
 a26:=isAgg166
 z26:=sizeOf166
 v26:=zeroValue166
 t28:=underlying216
 a28:=isAgg216
 z28:=sizeOf216
 v28:=zeroValue216
 i26:=by kernel_rfl }
def Lay.TT:Go.Shelf.Ren:=⟨fun | 5=>163 | 8=>196 | 7=>195 | 19=>226 | 20=>227 | 10=>217 | 11=>218 | 12=>219 | 13=>220 | 14=>221 | 15=>222 | 16=>223 | 17=>224 | 18=>225 | 30=>233 | 31=>234 | 32=>235 | 33=>236 | 34=>237 | 35=>238 | 40=>243 | n=>n,fun | 23=>160 | 25=>166 | 3=>3 | 32=>314 | 22=>160 | 0=>0 | 44=>100 | 46=>319 | 4=>4 | 36=>352 | 35=>351 | 41=>248 | 5=>5 | 9=>9 | 53=>366 | 57=>370 | 63=>375 | 64=>376 | n=>n,fun | n=>n⟩
theorem Lay.Ix:Go.Proofs.SlLaysM.n5 prog Lay.TT:={
 mixed:=by kernel_rfl
 f5:=⟨f163.name,by decide,func163.trans (congrArg some (by kernel_rfl))⟩
 f7:=⟨f195.name,by decide,func195.trans (congrArg some (by kernel_rfl))⟩
 f8:=func196.trans (congrArg some (by kernel_rfl))
 f10:=⟨f217.name,by decide,func217.trans (congrArg some (by kernel_rfl))⟩
 f11:=⟨f218.name,by decide,func218.trans (congrArg some (by kernel_rfl))⟩
 f12:=⟨f219.name,by decide,func219.trans (congrArg some (by kernel_rfl))⟩
 f13:=⟨f220.name,by decide,func220.trans (congrArg some (by kernel_rfl))⟩
 f14:=⟨f221.name,by decide,func221.trans (congrArg some (by kernel_rfl))⟩
 f15:=⟨f222.name,by decide,func222.trans (congrArg some (by kernel_rfl))⟩
 f16:=⟨f223.name,by decide,func223.trans (congrArg some (by kernel_rfl))⟩
 f17:=⟨f224.name,by decide,func224.trans (congrArg some (by kernel_rfl))⟩
 f18:=⟨f225.name,by decide,func225.trans (congrArg some (by kernel_rfl))⟩
 f19:=func226.trans (congrArg some (by kernel_rfl))
 f20:=func227.trans (congrArg some (by kernel_rfl))
 f30:=⟨f233.name,by decide,func233.trans (congrArg some (by kernel_rfl))⟩
 f31:=func234.trans (congrArg some (by kernel_rfl))
 f32:=func235.trans (congrArg some (by kernel_rfl))
 f33:=⟨f236.name,by decide,func236.trans (congrArg some (by kernel_rfl))⟩
 f34:=⟨f237.name,by decide,func237.trans (congrArg some (by kernel_rfl))⟩
 f35:=⟨f238.name,by decide,func238.trans (congrArg some (by kernel_rfl))⟩
 f40:=⟨f243.name,by decide,func243.trans (congrArg some (by kernel_rfl))⟩
 t0:=underlying0
 a0:=isAgg0
 z0:=sizeOf0
 v0:=zeroValue0
 t3:=underlying3
 a3:=isAgg3
 z3:=sizeOf3
 v3:=zeroValue3
 t4:=underlying4
 a4:=isAgg4
 z4:=sizeOf4
 v4:=zeroValue4
 t5:=underlying5
 a5:=isAgg5
 z5:=sizeOf5
 v5:=zeroValue5
 t9:=underlying9
 a9:=isAgg9
 z9:=sizeOf9
 v9:=zeroValue9
 t22:=underlying160
 a22:=isAgg160
 z22:=sizeOf160
 v22:=zeroValue160
 t23:=underlying160
 a23:=isAgg160
 z23:=sizeOf160
 v23:=zeroValue160
 t25:=underlying166
 a25:=isAgg166
 z25:=sizeOf166
 v25:=zeroValue166
 t32:=underlying314
 a32:=isAgg314
 z32:=sizeOf314
 v32:=zeroValue314
 t35:=underlying351
 a35:=isAgg351
 z35:=sizeOf351
 v35:=zeroValue351
 t36:=underlying352
 a36:=isAgg352
 z36:=sizeOf352
 v36:=zeroValue352
 t41:=underlying248
 a41:=isAgg248
 z41:=sizeOf248
 v41:=zeroValue248
 t44:=underlying100
 a44:=isAgg100
 z44:=sizeOf100
 v44:=zeroValue100
 t46:=underlying319
 a46:=isAgg319
 z46:=sizeOf319
 v46:=zeroValue319
 t53:=underlying366
 a53:=isAgg366
 z53:=sizeOf366
 v53:=zeroValue366
 t57:=underlying370
 a57:=isAgg370
 z57:=sizeOf370
 v57:=zeroValue370
 t63:=underlying375
 a63:=isAgg375
 z63:=sizeOf375
 v63:=zeroValue375
 t64:=underlying376
 a64:=isAgg376
 z64:=sizeOf376
 v64:=zeroValue376 }
theorem Lay.TU (m:Nat):AnyZI.SortsIn prog Lay.Iw Fence.wide m :=
 ⟨λaa off cap ss W hH TW aG=>callsIn_wide.2 (AnyM.slices_Sort_int Lay.Ix aa off cap ss W hH TW aG),
  λp cap W=>callsIn_wide.2 (AnyM.slices_Sort_int_none Lay.Ix p cap W)⟩
def ny:Value→Option (DataW Unit×List MemPlace):=λ_=>some (.lit (.bool true),[])
theorem TX {es:Array MapEntry}{clock:Nat}{kvs:List (Int×Value)}(h:lJ es clock kvs)(hl:kvs.length≤maxLen):WideElems.Fit prog 166 ny es clock:=by
 obtain⟨h1,h2,h3⟩:=h;have hlen:es.size=kvs.length:=by have:=congrArg List.length h1;simpa using this
 refine⟨by omega,h2,λx hx=>?_⟩;have hm:(x.key,x.val)∈es.toList.map (λe=>(e.key,e.val)):=cV.2 ⟨x,hx,rfl⟩;rw[h1]at hm;obtain⟨p,hp,o9⟩:=cV.1 hm;simp only[Prod.mk.injEq]at o9;refine⟨(.int .i64 p.1,.lit (.bool true)),?_⟩;simp[WideElems.rd,← o9.1,keyOf_int_mk underlying166 (h3 p hp),ny]
theorem mapKeys {es:Array MapEntry}{clock:Nat}{kvs:List (Int×Value)}(h:lJ es clock kvs):(intKeys (DataW.map ((es.toList.map (WideElems.rg prog 166 ny)).foldr DataW.insert []))).Perm (kvs.map (·.1)):=by
 have hp:=WideShapes.sorted_perm (es.toList.map (WideElems.rg prog 166 ny));have h4:(es.toList.map (WideElems.rg prog 166 ny)).map (λp=>Go.intOf p.1)=kvs.map (·.1):=by
  obtain⟨h1,_,h3⟩:=h
  have : ∀ (l : List MapEntry) (m : List (Int × Value)), l.map (fun e => (e.key, e.val)) = m.map (fun p => (Value.int .i64 p.1, p.2)) → (∀ p ∈ m, (Lit.int .i64 p.1).wf = true) →
      (l.map (WideElems.rg prog 166 ny)).map (λp=>Go.intOf p.1)=m.map (·.1):=by
   intro l
   induction l with
   | nil=>intro m h _;cases m with
    | nil=>rfl
    | cons=>simp at h
   | cons e l ih =>
    intro m h hw;cases m with
    | nil=>simp at h
    | cons p m =>
     simp only[map_cons,List.cons.injEq,Prod.mk.injEq]at h;simp only[map_cons,ih m h.2 (λq hq=>hw q (gM _ hq))];have hr:WideElems.rg prog 166 ny e=(Lit.int .i64 p.1,(DataW.lit (.bool true):DataW Unit)):=by
      simp only[WideElems.rg,WideElems.rd,h.1.1,keyOf_int_mk underlying166 (hw p mem_cons_self),ny,Option.bind_some,Option.map_some,Option.getD_some]
     rw[hr];rfl
  exact this _ _ h1 h3
 have:=hp.map (λp:Lit×DataW Unit=>Go.intOf p.1);rw[h4]at this;exact this
section
variable {W w:World}{L:List SP}{m:Nat}{kvs:List (Int×Value)}
theorem TY (I:U W w L):Calls prog 119 #[.map (some m)] w λe w' =>
   ∃ b,e=.returned (.func (.func 164) #[] #[pt b])∧U W w' (aa b 218 [.map (some m)]::L):=by
 have h:=AnyZI.keys_in Lay.Iv Fence.wide 5 trivial rfl (some m) w;refine (callsIn_wide.1 h).mono λe w' ⟨h1,h2⟩=>?_;subst h2;exact⟨_,h1,I.alloc _⟩
theorem TZ {ss ks:List Int}(hp:ss.Perm ks)(hk:ks.Pairwise (· < ·)):ss.mergeSort (λx y=>decide (x≤y))=ks:=by
 have h1:=List.pairwise_mergeSort (le:=λx y:Int=>decide (x≤y)) (λa b c h1 h2=>by simp at *;omega) (λa b=>by simp;omega) ss;refine List.Perm.eq_of_pairwise (le:=λx y:Int=>decide (x≤y)=true) (λa b _ _ h1 h2=>by simp at *;omega) h1 (hk.imp λh=>by simp;omega) ((List.mergeSort_perm _ _).trans hp)
theorem U.ownsRow {w':World}{e sz:Nat}{v:Value}{n:Nat}{xs:List Value}(I:U W w L)(hb:Below w.heap.size w w')(hr:w'.ownsRow w.heap.size e sz v n xs) :
   ∃ ad c,v=.slice ad n c∧U W w' (Sl e sz ad n c xs::L):=by
 obtain⟨zB,h,p,q⟩:=I;have hB:Below W.heap.size W w':=zB.trans ⟨hb.os,hb.tape,hb.output,hb.size,λk hk=>hb.block k (zb hk zB.size)⟩;have Iy:∀ n o,h n=some o→W.heap.size≤n∧w'.heap[n]?=some o:=λn o ho=>by
  obtain⟨h1,h2⟩:=p n o ho;refine⟨h1,?_⟩;rw[hb.block n (Array.getElem?_eq_some_iff.1 h2).1];exact h2
 have gU:U W w' L:=⟨hB,h,Iy,q⟩;obtain⟨hl,hr⟩:=hr;rcases hr with ⟨rfl,hn⟩ | ⟨g,cap,cur,rfl,hg,hc,CX,_,aG,ht⟩
 ·subst hn;refine⟨none,0,rfl,?_⟩;obtain rfl:xs=[]:=gW (by rw[hl,Nat.zero_mul]);exact gU.bN _ _ _
 ·have zC : h g = none := by
   cases he:h g with
   | none=>rfl
   | some x =>
    have:=(Array.getElem?_eq_some_iff.1 (p g x he).2).1;omega
  refine⟨some ⟨g,0,none⟩,cap,rfl,?_⟩;have h2:U W w' (aa g e ([]++xs++cur.toList.drop (n*sz))::L):=by
   refine⟨hB,λk=>if k=g then some (.cells cur e (0,0)) else h k,λk o ho=>?_,λk=>if k=g then some (.cells cur e (0,0)) else none,h,λk=>?_,λk o ho=>?_,λk o ho=>?_,?_,q⟩
   ·by_cases hk:k=g
    ·simp[hk]at ho;subst ho;subst hk;exact⟨ft zB.size hg,hc⟩
    ·simp[hk]at ho;exact Iy k o ho
   ·by_cases hk:k=g
    ·right;rw[hk];exact zC
    ·left;simp[hk]
   ·by_cases hk:k=g <;> simp[hk]at ho ⊢;exact ho
   ·by_cases hk:k=g
    ·rw[hk,zC]at ho;cases ho
    ·simp[hk,ho]
   ·have : ([] ++ xs ++ cur.toList.drop (n * sz)).toArray = cur := by
     rw[← ht];simp
    simp only[aa,kG,this,if_true]
  have hlen:xs.length+(cur.toList.drop (n*sz)).length=cap*sz:=by
   have:(cur.toList).length=cap*sz:=by simpa using aG
   rw[c3,this,hl];have:=Nat.mul_le_mul_right sz CX;omega
  have h3:=U.iM (pre:=[]) (cs:=xs) (n:=n) (c:=cap) (sz:=sz) h2 hl CX (by rw[Nat.sub_mul];omega);simpa using h3
theorem T4 {b:Nat}(I:U W w (aa b 218 [.map (some m)]::mp m kvs::L))(hk:(kvs.map (·.1)).Pairwise (· < ·))(hl:kvs.length≤1099511627776) :
   Calls prog 118 #[.func (.func 164) #[] #[pt b]] w λe w' =>
   ∃ ad c,e=.returned (.slice ad kvs.length c)∧U W w' (Sl 166 1 ad kvs.length c (kvs.map λp=>.int .i64 p.1)::mp m kvs::L):=by
 have du:=I.tail;obtain⟨es,clock,hm,tI⟩:=du.zy;have T5:(1099511627776:Nat)≤maxLen:=by unfold maxLen;omega
 have aG:es.size=kvs.length:=by have:=congrArg List.length hm.1;simpa using this
 have hF:=TX hm (ft hl T5);have zD:w.ownsMap prog 166 ny m es.size (.map ((es.toList.map (WideElems.rg prog 166 ny)).foldr DataW.insert [])):=⟨es,clock,tI.has.2,hF,a7 _,rfl⟩;have hD:Maps.size (DataW.map ((es.toList.map (WideElems.rg prog 166 ny)).foldr DataW.insert []))≤kvs.length:=by rw[← aG];exact zD.size_le
 have mf:w.cell? ⟨b,0,none⟩=some (.map (some m)):=I.cell 0;have hb:b<w.heap.size:=World.block_lt_of_cell? _ _ mf;have T6:SeqGives Fence.wide 2 prog 164 #[pt b] encZ (λss=>ss.Perm (intKeys (DataW.map ((es.toList.map (WideElems.rg prog 166 ny)).foldr DataW.insert [])))) (Maps.size (DataW.map ((es.toList.map (WideElems.rg prog 166 ny)).foldr DataW.insert []))) w :=
  AnyZI.keys_gives (ρ:=Lay.Iu) { Lay.Iv with } Fence.wide _ trivial rfl (by omega) b m _ _ w hb mf zD
 have vq:=AnyZI.sorted_in Lay.TQ Fence.wide 5 trivial trivial trivial trivial rfl (by omega) (Lay.TU _) (enters_of func163 (by kernel_rfl) rfl)
  164 #[pt b] trivial
  (enters_of func164 (by kernel_rfl) rfl) _ _ (by omega) (by omega) _ T6
 refine (callsIn_wide.1 vq).mono λe w' ⟨v,ss,h1,h2,h3,_,h5⟩=>?_;subst h1;have hp:=h2.trans (mapKeys hm);rw[TZ hp hk]at h3;have hlen:ss.length=kvs.length:=by have:=hp.length_eq;simpa using this
 rw[hlen]at h3;obtain⟨ad,c,rfl,h6⟩:=du.ownsRow h5 h3;refine⟨ad,c,rfl,?_⟩;have h7:(kvs.map (·.1)).map encZ=kvs.map λp=>Value.int .i64 p.1:=by simp[encZ,Function.comp_def]
 rw[h7]at h6;exact h6
end
end
section
structure aC where
 id:Nat
 refs:Nat
 g:Nat→Int
 p:Nat→Nat
structure Sn where
 last:Nat
 room:Nat
 n:Nat
 ar:List aC
def aC.cells (x:aC):List Value:=ints .i64 4 (λk=>(x.p k:Int)+1)++[.int .i64 x.refs]
theorem aC.len (x:aC):x.cells.length=5:=by simp[aC.cells,dd]
instance {x:aC}:l6 x.cells 5:=⟨x.len⟩
theorem aC.at {x:aC}{k:Nat}(h:k<4):x.cells[k]?=some (.int .i64 ((x.p k:Int)+1)):=by
 rw[aC.cells,l4 (by rw[dd];exact h),fN _ h]
theorem aC.ref {x:aC}:x.cells[4]?=some (.int .i64 x.refs):=by simp[aC.cells,dd]
theorem aC.CY {x:aC}{r:Nat}:x.cells.set 4 (.int .i64 r)=aC.cells { x with refs:=r }:=by
 rw[aC.cells,set_append_right _ _ (by rw[dd];exact a7 _),dd];rfl
theorem aC.T7 {x:aC}{k f:Nat}(h:k<4)(g:Nat→Int):x.cells.set k (.int .i64 ((f:Int)+1))=aC.cells { x with p:=λj=>if j=k then f else x.p j,g:=g }:=by
 rw[aC.cells,set_append_left _ _ (by rw[dd];exact h),ints_set,aC.cells]
 congr 1
 refine xf λj _=>?_;by_cases hj:j=k <;> simp[hj]
def iO (x:aC)(p m:Nat):Nat:=(List.range m).countP λk=>decide (x.p k=p)
def hs (x:aC)(p:Nat):Nat:=iO x p 4
def cQ (l:List aC)(p:Nat):Nat:=(l.map λx=>hs x p).sum
def Sn.used (A:Sn):Nat:=(List.range A.room).countP λp=>decide (0<cQ A.ar p)
theorem zE (x:aC)(p:Nat):iO x p 0=0:=rfl
theorem kM (x:aC)(p m:Nat):iO x p (m+1)=iO x p m+if x.p m=p then 1 else 0:=by
 rw[iO,range_succ,List.countP_append,List.countP_singleton,iO];by_cases h:x.p m=p <;> simp[h]
theorem tJ (x:aC)(p:Nat):hs x p=(if x.p 0=p then 1 else 0)+(if x.p 1=p then 1 else 0)+(if x.p 2=p then 1 else 0)+(if x.p 3=p then 1 else 0):=by
 rw[hs,kM,kM,kM,kM,zE,Nat.zero_add]
theorem sm (x:aC)(p:Nat){m n:Nat}(h:m≤n):iO x p m≤iO x p n:=by
 induction n with
 | zero => obtain rfl : m = 0 := by omega
           exact a7 _
 | succ n ih =>
  rcases Nat.lt_or_ge n m with h1 | h1
  ·obtain rfl:m=n+1:=by omega
   exact a7 _
  ·have:=ih h1;rw[kM];omega
theorem Iz (x:aC)(p:Nat):hs x p≤4:=by have:=List.countP_le_length (p:=λk=>decide (x.p k=p)) (l:=List.range 4);simpa [hs,iO] using this
theorem so {x:aC}{k:Nat}(h:k<4):0<hs x (x.p k):=by
 have h1:=sm x (x.p k) (m:=k+1) (n:=4) (by omega);rw[kM,ak rfl]at h1;show 0<iO x (x.p k) 4;omega
theorem T8 {x:aC}{k k':Nat}(h:k<4)(h':k'<4)(hn:k≠k')(he:x.p k=x.p k'):2≤hs x (x.p k):=by
 rcases Nat.lt_or_gt_of_ne hn with hl | hl
 ·have h1:=sm x (x.p k) (m:=k'+1) (n:=4) (by omega);have h2:=sm x (x.p k) (m:=k+1) (n:=k') (by omega);rw[kM,ak he.symm]at h1;rw[kM,ak rfl]at h2;show 2≤iO x (x.p k) 4;omega
 ·have h1:=sm x (x.p k) (m:=k+1) (n:=4) (by omega);have h2:=sm x (x.p k) (m:=k'+1) (n:=k) (by omega);rw[kM,ak rfl]at h1;rw[kM,ak he.symm]at h2;show 2≤iO x (x.p k) 4;omega
theorem CZ {x:aC}{p:Nat}(h:∀ k,k<4→x.p k≠p):hs x p=0:=by
 rw[tJ,ag (h 0 (by omega)),ag (h 1 (by omega)),ag (h 2 (by omega)),ag (h 3 (by omega))]
theorem IA {x:aC}{p:Nat}:0<hs x p ↔ ∃ k,k<4∧x.p k=p:=by
 constructor
 ·intro h;by_cases h0:∃ k,k<4∧x.p k=p
  ·exact h0
  ·rw[CZ λk hk e=>h0 ⟨k,hk,e⟩]at h;omega
 ·rintro⟨k,hk,rfl⟩;exact so hk
theorem IB {x y:aC}(h:∀ k,k<4→x.p k=y.p k)(p:Nat):hs x p=hs y p:=by
 rw[tJ,tJ,h 0 (by omega),h 1 (by omega),h 2 (by omega),h 3 (by omega)]
theorem C0 (p:Nat):cQ [] p=0:=rfl
theorem sr (x:aC)(l:List aC)(p:Nat):cQ (x::l) p=hs x p+cQ l p:=by simp[cQ]
theorem xp (l m:List aC)(p:Nat):cQ (l++m) p=cQ l p+cQ m p:=by simp[cQ]
theorem xq {l:List aC}{i:Nat}(h:i<l.length)(p:Nat):cQ l p=hs l[i] p+cQ (l.eraseIdx i) p:=by
 have h0:l=l.take i++l[i]::l.drop (i+1):=by rw[← kl h,jK]
 rw[eraseIdx_eq_take_drop_succ,xp]
 conv=>lhs;rw[h0,xp,sr]
 omega
theorem C1 {l:List aC}{i:Nat}(h:i<l.length)(x:aC)(p:Nat):cQ (l.set i x) p+hs l[i] p=cQ l p+hs x p:=by
 have h1:=xq h p;have h2:=xq (l:=l.set i x) (i:=i) (by simpa using h) p;rw[getElem_set_self,eraseIdx_set_eq]at h2;omega
theorem tK {l:List aC}{x:aC}(h:x∈l)(p:Nat):hs x p≤cQ l p:=by
 obtain⟨i,hi,rfl⟩:=List.mem_iff_getElem.1 h;have:=xq hi p;omega
theorem C3 (l:List aC)(p:Nat):cQ l p≤4*l.length:=by
 induction l with
 | nil=>simp[cQ]
 | cons x l ih=>rw[sr,eO];have:=Iz x p;omega
structure Rel (A:Sn)(ps:List Pg):Prop where
 len:ps.length=A.room
 refs:∀ p q,ps[p]?=some q→q.refs=cQ A.ar p
 pa:∀ x∈A.ar,∀ k,k<4→∃ q,ps[x.p k]?=some q∧∀ j,j<8→q.g j=x.g (8*k+j)
structure WF (A:Sn):Prop where
 room:A.room≤200
 bound:A.n<1099511627776
 last:A.last≤A.n
 many:A.ar.length≤A.n
 sorted:(A.ar.map (·.id)).Pairwise (· < ·)
 mg:∀ x∈A.ar,1≤x.id∧x.id≤A.last∧1≤x.refs∧x.refs≤A.n
theorem Rel.ok {A:Sn}{ps:List Pg}(h:Rel A ps)(hw:WF A):ps.length≤200∧∀ p∈ps,p.refs<4611686018427387904:=by
 refine⟨h.len ▸ hw.room,λq hq=>?_⟩;obtain⟨i,hi,rfl⟩:=List.mem_iff_getElem.1 hq;rw[h.refs i _ (aE hi)];have:=C3 A.ar i;have:=hw.many;have:=hw.bound;omega
theorem Rel.used {A:Sn}{ps:List Pg}(h:Rel A ps):jQ ps=A.used:=by
 have e:ps=(List.range ps.length).map (λi=>ps.getD i sf):=by
  apply ext_getElem (by simp);intro i h1 h2;simp[bn,aE h1]
 rw[jQ,Sn.used,← h.len]
 conv=>lhs;rw[e]
 rw[List.countP_map];refine countP_congr λi hi=>?_;have dH:i<ps.length:=mem_range.1 hi;have:=h.refs i _ (aE dH);simp only[Function.comp,bn,aE dH,Option.getD_some,this]
theorem Rel.live {A:Sn}{ps:List Pg}(h:Rel A ps){x:aC}(hx:x∈A.ar){k:Nat}(hk:k<4):∃ h:x.p k<ps.length,0<ps[x.p k].refs∧∀ j,j<8→ps[x.p k].g j=x.g (8*k+j):=by
 obtain⟨q,h1,h2⟩:=h.pa x hx k hk;obtain⟨h3,h4⟩:=a2.1 h1;refine⟨h3,?_,λj hj=>by rw[h4];exact h2 j hj⟩;rw[h.refs _ _ (aE h3)];have:=tK hx (x.p k);have:=so (x:=x) hk;omega
def hE (ps:List Pg)(x:aC)(m:Nat):List Pg:=ps.mapIdx λp q=>⟨q.g,q.refs+iO x p m⟩
def jf (ps:List Pg)(x:aC)(m:Nat):List Pg:=ps.mapIdx λp q=>⟨q.g,q.refs-iO x p m⟩
theorem T9 (ps:List Pg)(x:aC):hE ps x 0=ps:=by
 apply ext_getElem (by simp[hE]);intro i h1 h2;simp[hE,zE]
theorem Ua (ps:List Pg)(x:aC):jf ps x 0=ps:=by
 apply ext_getElem (by simp[jf]);intro i h1 h2;simp[jf,zE]
theorem xr (ps:List Pg)(x:aC)(m:Nat):(hE ps x m).length=ps.length:=by simp[hE]
theorem zF (ps:List Pg)(x:aC)(m:Nat):(jf ps x m).length=ps.length:=by simp[jf]
theorem xt {ps:List Pg}{x:aC}{m p:Nat}(h:p<(hE ps x m).length):(hE ps x m)[p]=⟨(ps[p]'(by rw[xr]at h;exact h)).g,(ps[p]'(by rw[xr]at h;exact h)).refs+iO x p m⟩:=by simp[hE]
theorem zG {ps:List Pg}{x:aC}{m p:Nat}(h:p<(jf ps x m).length):(jf ps x m)[p]=⟨(ps[p]'(by rw[zF]at h;exact h)).g,(ps[p]'(by rw[zF]at h;exact h)).refs-iO x p m⟩:=by simp[jf]
theorem Ub {ps:List Pg}{x:aC}{m:Nat}(h:x.p m<(hE ps x m).length):(hE ps x m).set (x.p m) ⟨(hE ps x m)[x.p m].g,(hE ps x m)[x.p m].refs+1⟩=hE ps x (m+1):=by
 apply ext_getElem (by simp[hE]);intro i h1 h2;rw[List.getElem_set,xt h2];by_cases hi:x.p m=i
 ·subst hi;rw[ak rfl,xt h,kM,ak rfl,Nat.add_assoc]
 ·rw[ag hi,xt (by simpa using h1),kM,ag hi];rfl
theorem Uc {ps:List Pg}{x:aC}{m:Nat}(h:x.p m<(jf ps x m).length):(jf ps x m).set (x.p m) ⟨(jf ps x m)[x.p m].g,(jf ps x m)[x.p m].refs-1⟩=jf ps x (m+1):=by
 apply ext_getElem (by simp[jf]);intro i h1 h2;rw[List.getElem_set,zG h2];by_cases hi:x.p m=i
 ·subst hi;rw[ak rfl,zG h,kM,ak rfl,Nat.sub_sub]
 ·rw[ag hi,zG (by simpa using h1),kM,ag hi];rfl
theorem IC (ps:List Pg)(x:aC)(m p:Nat):(hE ps x m)[p]?=ps[p]?.map λq=>⟨q.g,q.refs+iO x p m⟩:=by simp[hE]
theorem ID (ps:List Pg)(x:aC)(m p:Nat):(jf ps x m)[p]?=ps[p]?.map λq=>⟨q.g,q.refs-iO x p m⟩:=by simp[jf]
def Sn.add (A:Sn)(g:Nat→Int)(p:Nat→Nat):Sn:={ A with last:=A.last+1,n:=A.n+1,ar:=A.ar++[⟨A.last+1,1,g,p⟩] }
def Sn.drop (A:Sn)(i:Nat)(x:aC):Sn:={ A with ar:=if x.refs=1 then A.ar.eraseIdx i else A.ar.set i { x with refs:=x.refs-1 } }
def Sn.put (A:Sn)(i:Nat)(x:aC)(c:Nat)(v:Int):Sn:={ A with ar:=A.ar.set i { x with g:=ck x.g c v } }
def Sn.tL (A:Sn)(i:Nat)(x:aC)(c:Nat)(v:Int)(f:Nat):Sn:={ A with ar:=A.ar.set i { x with g:=ck x.g c v,p:=λj=>if j=c/8 then f else x.p j } }
theorem WF.add {A:Sn}(h:WF A)(hn:A.n+1<1099511627776)(g:Nat→Int)(p:Nat→Nat):WF (A.add g p):=by
 obtain⟨h1,h2,h3,h4,h5,h6⟩:=h;refine⟨h1,hn,by simp[Sn.add];omega,by simp[Sn.add];omega,?_,λx hx=>?_⟩
 ·simp only[Sn.add,cW,map_cons,map_nil];refine List.pairwise_append.2 ⟨h5,by simp,λa E b hb=>?_⟩;obtain⟨x,hx,rfl⟩:=cV.1 E;have:=(h6 x hx).2.1;simp at hb;omega
 ·simp only[Sn.add]at hx ⊢;rcases eP.1 hx with hx | hx
  ·have:=h6 x hx;omega
  ·simp at hx;subst hx;simp
theorem IE {l:List aC}{i:Nat}{x y:aC}(h:l[i]?=some x)(he:y.id=x.id):(l.set i y).map (·.id)=l.map (·.id):=by
 obtain⟨hi,rfl⟩:=a2.1 h;rw[List.map_set,he];apply ext_getElem?;intro j;rw[jL];by_cases hj:i=j
 ·subst hj;simp[hi]
 ·rw[ag hj]
theorem WF.set {A:Sn}(h:WF A){n:Nat}(hn:n<1099511627776)(hle:A.n≤n){i:Nat}{x y:aC}(hx:A.ar[i]?=some x)(he:y.id=x.id)(hr:1≤y.refs∧y.refs≤n):WF { A with n:=n,ar:=A.ar.set i y }:=by
 obtain⟨h1,h2,h3,h4,h5,h6⟩:=h;have eC:=bH hx;refine⟨h1,hn,by simp only;omega,by simp only[bu];omega,by simp only;rw[IE hx he];exact h5,λz hz=>?_⟩;simp only at hz ⊢;rcases mem_or_eq_of_mem_set hz with hz | rfl
 ·have:=h6 z hz;omega
 ·have:=h6 x eC;rw[he];omega
theorem WF.erase {A:Sn}(h:WF A)(i:Nat):WF { A with ar:=A.ar.eraseIdx i }:=by
 obtain⟨h1,h2,h3,h4,h5,h6⟩:=h;refine⟨h1,h2,h3,?_,?_,λz hz=>h6 z (List.mem_of_mem_eraseIdx hz)⟩
 ·simp only;exact ft (List.length_eraseIdx_le _ _) h4
 ·simp only;rw[xn];exact h5.sublist (List.eraseIdx_sublist _ _)
theorem WF.ids {A:Sn}(h:WF A){i j:Nat}{x y:aC}(hx:A.ar[i]?=some x)(hy:A.ar[j]?=some y)(he:x.id=y.id):i=j:=by
 obtain⟨hi,rfl⟩:=a2.1 hx;obtain⟨hj,rfl⟩:=a2.1 hy;have hp:=List.pairwise_iff_getElem.1 h.sorted;rcases Nat.lt_trichotomy i j with hl | hl | hl
 ·have:=hp i j (by simpa using hi) (by simpa using hj) hl;simp at this;omega
 ·exact hl
 ·have:=hp j i (by simpa using hj) (by simpa using hi) hl;simp at this;omega
theorem Rel.add {A:Sn}{ps:List Pg}(h:Rel A ps){x:aC}(hx:x∈A.ar):Rel (A.add x.g x.p) (hE ps x 4):=by
 refine⟨by rw[xr];exact h.len,λp q hq=>?_,λy hy k hk=>?_⟩
 ·rw[IC]at hq;obtain⟨su,h1,rfl⟩:=Option.map_eq_some_iff.1 hq;have:=h.refs p su h1;simp only[Sn.add,xp,sr,C0,this];rfl
 ·have h0 : ∀ y : aC, (∃ q, ps[y.p k]? = some q ∧ ∀ j, j < 8 → q.g j = y.g (8 * k + j)) → ∃ q, (hE ps x 4)[y.p k]? = some q ∧ ∀ j, j < 8 → q.g j = y.g (8 * k + j) := by
   rintro y ⟨q,h1,h2⟩;exact⟨⟨q.g,q.refs+iO x (y.p k) 4⟩,by rw[IC,h1];rfl,h2⟩
  simp only[Sn.add]at hy;rcases eP.1 hy with hy | hy
  ·exact h0 y (h.pa y hy k hk)
  ·simp at hy;subst hy;exact h0 ⟨A.last+1,1,x.g,x.p⟩ (h.pa x hx k hk)
theorem Rel.Ud {A:Sn}{ps:List Pg}(h:Rel A ps){n i:Nat}{x:aC}{r:Nat}(hx:A.ar[i]?=some x):Rel { A with n:=n,ar:=A.ar.set i { x with refs:=r } } ps:=by
 obtain⟨hi,rfl⟩:=a2.1 hx;refine⟨h.len,λp q hq=>?_,λy hy k hk=>?_⟩
 ·have:=C1 hi { A.ar[i] with refs:=r } p;have h2:hs { A.ar[i] with refs:=r } p=hs A.ar[i] p:=IB (λ_ _=>rfl) p;rw[h.refs p q hq];show cQ A.ar p=cQ (A.ar.set i { A.ar[i] with refs:=r }) p;omega
 ·simp only at hy;rcases mem_or_eq_of_mem_set hy with hy | rfl
  ·exact h.pa y hy k hk
  ·exact h.pa _ (getElem_mem hi) k hk
theorem Rel.erase {A:Sn}{ps:List Pg}(h:Rel A ps){i:Nat}{x:aC}(hx:A.ar[i]?=some x):Rel { A with ar:=A.ar.eraseIdx i } (jf ps x 4):=by
 obtain⟨hi,rfl⟩:=a2.1 hx;refine⟨by rw[zF];exact h.len,λp q hq=>?_,λy hy k hk=>?_⟩
 ·rw[ID]at hq;obtain⟨su,h1,rfl⟩:=Option.map_eq_some_iff.1 hq;have:=h.refs p su h1;have h2:=xq hi p;simp only[this,h2];show _-hs A.ar[i] p=_;omega
 ·obtain⟨q,h1,h2⟩:=h.pa y (List.mem_of_mem_eraseIdx hy) k hk;exact⟨⟨q.g,q.refs-iO A.ar[i] (y.p k) 4⟩,by rw[ID,h1];rfl,h2⟩
theorem alone {A:Sn}{i:Nat}{x:aC}(hx:A.ar[i]?=some x){k:Nat}(hk:k<4)(h1:cQ A.ar (x.p k)≤1){j:Nat}{y:aC}(hy:A.ar[j]?=some y){k':Nat}(eW:k'<4)(he:y.p k'=x.p k):j=i∧k'=k:=by
 obtain⟨hi,rfl⟩:=a2.1 hx;have h2:=xq hi (A.ar[i].p k);have h3:=so (x:=A.ar[i]) hk;have gP:j=i:=by
  rcases Nat.lt_trichotomy j i with hl | hl | hl
  ·have hm : y ∈ A.ar.eraseIdx i := by
    rw[List.mem_eraseIdx_iff_getElem?];exact⟨j,by omega,hy⟩
   have h4:=tK hm (A.ar[i].p k);rw[← he]at h4 h2 h3 h1;have:=so (x:=y) eW;omega
  ·exact hl
  ·have hm : y ∈ A.ar.eraseIdx i := by
    rw[List.mem_eraseIdx_iff_getElem?];exact⟨j,by omega,hy⟩
   have h4:=tK hm (A.ar[i].p k);rw[← he]at h4 h2 h3 h1;have:=so (x:=y) eW;omega
 refine⟨gP,?_⟩;subst gP;rw[aE hi]at hy;cases hy;by_cases jR:k'=k
 ·exact jR
 ·have:=T8 hk eW (Ne.symm jR) he.symm;omega
theorem Rel.put {A:Sn}{ps:List Pg}(h:Rel A ps){i:Nat}{x:aC}(hx:A.ar[i]?=some x){c:Nat}(hc:c<32)(h1:cQ A.ar (x.p (c/8))=1)(v:Int)(hl:x.p (c/8)<ps.length) :
   Rel (A.put i x c v) (ps.set (x.p (c/8)) ⟨λj=>if j=c%8 then v else ps[x.p (c/8)].g j,1⟩):=by
 have hi:=(a2.1 hx).1;have gX:=(a2.1 hx).2;have hk:c/8<4:=by omega
 have xu:∀ p,cQ (A.put i x c v).ar p=cQ A.ar p:=λp=>by
  have:=C1 hi { x with g:=ck x.g c v } p;have h2:hs { x with g:=ck x.g c v } p=hs A.ar[i] p:=by rw[gX];exact IB (λ_ _=>rfl) p
  simp only[Sn.put];omega
 refine⟨by rw[bu];exact h.len,λp q hq=>?_,λy hy k eW=>?_⟩
 ·rw[xu];rw[jL]at hq;by_cases hp:x.p (c/8)=p
  ·subst hp;rw[ak rfl,ak hl]at hq;cases hq;exact h1.symm
  ·rw[ag hp]at hq;exact h.refs p q hq
 ·simp only[Sn.put]at hy;obtain⟨j,hj⟩:=jS.1 hy;rw[jL]at hj;by_cases n1:i=j
  ·rw[ak n1,ak hi]at hj;cases hj;obtain⟨q,h2,h3⟩:=h.pa x (bH hx) k eW;by_cases qN:k=c/8
   ·subst qN;refine⟨⟨λj=>if j=c%8 then v else ps[x.p (c/8)].g j,1⟩,by simp[hl],λm hm=>?_⟩;rw[aE hl]at h2;cases h2;simp only[ck];by_cases kf:m=c%8
    ·rw[ak kf,ak (by omega)]
    ·rw[ag kf,ag (by omega)];exact h3 m hm
   ·have bD:x.p (c/8)≠x.p k:=λe=>qN (alone hx hk (by omega) hx eW e.symm).2;refine⟨q,by simp only;rw[getElem?_set_ne bD];exact h2,λm hm=>?_⟩;simp only[ck];rw[ag (by omega)];exact h3 m hm
  ·rw[ag n1]at hj;obtain⟨q,h2,h3⟩:=h.pa y (bH hj) k eW;have bD:x.p (c/8)≠y.p k:=λe=>n1 (alone hx hk (by omega) hj eW e.symm).1.symm;exact⟨q,by rw[getElem?_set_ne bD];exact h2,h3⟩
theorem Rel.tL {A:Sn}{ps:List Pg}(h:Rel A ps){i:Nat}{x:aC}(hx:A.ar[i]?=some x){c f:Nat}(hc:c<32)(h1:1<cQ A.ar (x.p (c/8)))(v:Int)(hl:x.p (c/8)<ps.length)(hf:f<ps.length)(h0:ps[f].refs=0) :
   Rel (A.tL i x c v f) ((ps.set (x.p (c/8)) ⟨ps[x.p (c/8)].g,ps[x.p (c/8)].refs-1⟩).set f ⟨λj=>if j=c%8 then v else ps[x.p (c/8)].g j,1⟩):=by
 have hi:=(a2.1 hx).1;have gX:=(a2.1 hx).2;have hk:c/8<4:=by omega
 have C4:cQ A.ar f=0:=by rw[← h.refs f _ (aE hf)];exact h0
 have C5:∀ y∈A.ar,∀ k,k<4→y.p k≠f:=λy hy k eW e=>by
  have h2:=tK hy f;rw[← e]at h2 C4;have:=so (x:=y) eW;omega
 have eC:=bH hx;have zH:x.p (c/8)≠f:=C5 x eC _ hk;have IG:∀ p,hs { x with g:=ck x.g c v,p:=λj=>if j=c/8 then f else x.p j } p+(if x.p (c/8)=p then 1 else 0)=hs x p+(if f=p then 1 else 0):=λp=>by
  rw[tJ,tJ];simp only;rcases (by omega:c/8=0∨c/8=1∨c/8=2∨c/8=3) with e | e | e | e <;> rw[e] <;> simp <;> omega
 refine⟨by rw[bu,bu];exact h.len,λp q hq=>?_,λy hy k eW=>?_⟩
 ·have h2:=C1 hi { x with g:=ck x.g c v,p:=λj=>if j=c/8 then f else x.p j } p;have h3:=IG p;rw[gX]at h2;simp only[Sn.tL];by_cases hp:f=p
  ·subst hp;rw[getElem?_set_self (by rw[bu];exact hf)]at hq;cases hq;rw[ak rfl,ag zH]at h3;simp only;omega
  ·rw[getElem?_set_ne hp]at hq;rw[ag hp]at h3;by_cases hX:x.p (c/8)=p
   ·subst hX;rw[getElem?_set_self hl]at hq;cases hq;rw[ak rfl]at h3;have h4:=h.refs _ _ (aE hl);simp only;omega
   ·rw[getElem?_set_ne hX]at hq;rw[ag hX]at h3;have h4:=h.refs _ _ hq;omega
 ·simp only[Sn.tL]at hy;obtain⟨j,hj⟩:=jS.1 hy;rw[jL]at hj;have vr:∀ y:aC,(∃ q,ps[y.p k]?=some q∧∀ j,j<8→q.g j=y.g (8*k+j))→y.p k≠f→∃ q,((ps.set (x.p (c/8)) ⟨ps[x.p (c/8)].g,ps[x.p (c/8)].refs-1⟩).set f ⟨λj=>if j=c%8 then v else ps[x.p (c/8)].g j,1⟩)[y.p k]?=some q∧∀ j,j<8→q.g j=y.g (8*k+j):=by
   rintro y ⟨q,h2,h3⟩ hn;by_cases hp:x.p (c/8)=y.p k
   ·rw[← hp]at h2 ⊢;rw[aE hl]at h2;cases h2;refine⟨⟨ps[x.p (c/8)].g,ps[x.p (c/8)].refs-1⟩,?_,h3⟩;rw[getElem?_set_ne (Ne.symm zH),getElem?_set_self hl]
   ·exact⟨q,by rw[getElem?_set_ne (Ne.symm hn),getElem?_set_ne hp];exact h2,h3⟩
  by_cases n1:i=j
  ·rw[ak n1,ak hi]at hj;cases hj;obtain⟨q,h2,h3⟩:=h.pa x eC k eW;by_cases qN:k=c/8
   ·subst qN;refine⟨⟨λj=>if j=c%8 then v else ps[x.p (c/8)].g j,1⟩,by simp only[if_true];rw[getElem?_set_self (by rw[bu];exact hf)],λm hm=>?_⟩;rw[aE hl]at h2;cases h2;simp only[ck];by_cases kf:m=c%8
    ·rw[ak kf,ak (by omega)]
    ·rw[ag kf,ag (by omega)];exact h3 m hm
   ·obtain⟨q',h4,h5⟩:=vr x ⟨q,h2,h3⟩ (C5 x eC k eW);refine⟨q',by simp only[ag qN];exact h4,λm hm=>?_⟩;simp only[ck];rw[ag (by omega)];exact h5 m hm
  ·rw[ag n1]at hj;exact vr y (h.pa y (bH hj) k eW) (C5 y (bH hj) k eW)
end
section
def iP (x:aC×Nat):SP:=aa x.2 232 x.1.cells
def kvs (xs:List (aC×Nat)):List (Int×Value):=xs.map λx=>((x.1.id:Int),Value.pointer (some ⟨x.2,0,none⟩))
def ax (q r:Nat)(A:Sn):SP:=λh=>∃ b m ps xs,(xs.map (·.1)=A.ar∧WF A∧Rel A ps) ∧
 cn [aa q 221 [pt r,.map (some m),.int .i64 A.last],mp m (kvs xs),Room r b ps,ah iP xs] h
section
variable {W w:World}{L L' R:List SP}{q r b m i pb:Nat}{A:Sn}{ps:List Pg}{xs:List (aC×Nat)}{x y:aC}
theorem ax.open (I:U W w (ax q r A::L)):∃ b m ps xs,xs.map (·.1)=A.ar∧WF A∧Rel A ps ∧
   U W w (aa q 221 [pt r,.map (some m),.int .i64 A.last]::mp m (kvs xs)::Room r b ps::ah iP xs::L):=by
 obtain⟨⟨b,m,ps,xs⟩,⟨h1,h2,h3⟩,h4⟩:=I.jy (ι:=Nat×Nat×List Pg×List (aC×Nat)) (p:=λi=>i.2.2.2.map (·.1)=A.ar∧WF A∧Rel A i.2.2.1)
  (B:=λi h=>cn [aa q 221 [pt r,.map (some i.2.1),.int .i64 A.last],mp i.2.1 (kvs i.2.2.2),Room r i.1 i.2.2.1,ah iP i.2.2.2] h)
  (λh ⟨b,m,ps,xs,h1,h2⟩=>⟨(b,m,ps,xs),h1,h2⟩)
 exact⟨b,m,ps,xs,h1,h2,h3,h4.open λ_ h=>h⟩
theorem ax.close {last:Nat}(I:U W w L)[k:fD L (aa q 221 [pt r,.map (some m),.int .i64 last]::mp m (kvs xs)::Room r b ps::ah iP xs::L') R]
   (h1:xs.map (·.1)=A.ar) (h2:WF A) (h3:Rel A ps) (hl:A.last=last:=by rfl):U W w (ax q r A::L'):=by
 subst hl;exact U.shut (M:=[_,_,_,_]) (I.sub (M:=aa q 221 [pt r,.map (some m),.int .i64 A.last]::mp m (kvs xs)::Room r b ps::ah iP xs::L')) (λ_ x=>⟨b,m,ps,xs,⟨h1,h2,h3⟩,x⟩)
theorem qc (h1:xs.map (·.1)=A.ar)(hx:A.ar[i]?=some x):∃ pb,xs[i]?=some (x,pb):=by
 rw[← h1,bm]at hx;obtain⟨⟨y,pb⟩,h2,rfl⟩:=Option.map_eq_some_iff.1 hx;exact⟨pb,h2⟩
theorem U.qX (I:U W w L)(hx:xs[i]?=some (x,pb))[k:pZ L (ah iP xs) R]:U W w (aa pb 232 x.cells::ah iP (xs.eraseIdx i)::R):=by
 obtain⟨hi,he⟩:=a2.1 hx;have:=(I.perm k.perm).fu hi;rw[he]at this;exact this
theorem Ue (hx:xs[i]?=some (x,pb))(he:y.id=x.id):kvs (xs.set i (y,pb))=kvs xs:=by
 have hi:=(a2.1 hx).1;apply ext_getElem?;intro j;simp only[kvs,bm,jL];by_cases hj:i=j
 ·subst hj;rw[ak rfl,ak hi,hx];simp[he]
 ·rw[ag hj]
theorem ax.tM {B:Sn}{last:Nat}(I:U W w L)[k:fD L (aa q 221 [pt r,.map (some m),.int .i64 last]::mp m (kvs xs)::Room r b ps::aa pb 232 y.cells::ah iP (xs.eraseIdx i)::L') R]
   (hx:xs[i]?=some (x,pb)) (h1:xs.map (·.1)=A.ar) (he:y.id=x.id) (hB:B.ar=A.ar.set i y) (h2:WF B) (h3:Rel B ps) (hl:B.last=last:=by rfl):U W w (ax q r B::L'):=by
 subst hl;obtain⟨hi,_⟩:=a2.1 hx;have h0:=I.sub (M:=aa q 221 [pt r,.map (some m),.int .i64 B.last]::mp m (kvs xs)::Room r b ps::aa pb 232 y.cells::ah iP (xs.eraseIdx i)::L');have h4:=h0.sub (M:=aa pb 232 y.cells::ah iP (xs.eraseIdx i)::aa q 221 [pt r,.map (some m),.int .i64 B.last]::mp m (kvs xs)::Room r b ps::L');have h5:=U.kI (f:=iP) (x:=(y,pb)) hi h4;rw[← Ue (y:=y) hx he]at h5;exact ax.close (b:=b) (m:=m) (xs:=xs.set i (y,pb)) h5 (by rw[List.map_set,h1,hB]) h2 h3
theorem xv (hx:A.ar[i]?=some x):A.ar=A.ar.set i x:=by
 obtain⟨hi,rfl⟩:=a2.1 hx;rw[set_getElem_self]
theorem findAt (h1:xs.map (·.1)=A.ar)(hw:WF A)(hx:xs[i]?=some (x,pb)):mR (kvs xs) (x.id:Int) 0=some (i,pt pb):=by
 have hA:∀ (j:Nat) (z:aC×Nat),xs[j]?=some z→A.ar[j]?=some z.1:=λj z hz=>by rw[← h1,bm,hz];rfl
 have:=TJ (kvs:=kvs xs) (k:=(x.id:Int)) (v:=pt pb) (j:=i) 0 (by rw[kvs,bm,hx];rfl) (λj hj p hp=>by
  rw[kvs,bm]at hp;obtain⟨z,hz,rfl⟩:=Option.map_eq_some_iff.1 hp;intro e;simp at e;have:=hw.ids (hA j z hz) (hA i _ hx) (Int.ofNat.inj e);omega)
 rwa [Nat.zero_add]at this
theorem qd {last:Nat}(I:U W w (aa q 221 [pt r,.map (some m),.int .i64 last]::mp m (kvs xs)::L))(h1:xs.map (·.1)=A.ar)(hw:WF A)(hx:xs[i]?=some (x,pb)) :
   Calls prog 120 #[pt q,.int .i64 x.id] w λe w'=>e=.returned (pt pb) ∧
    U W w' (aa q 221 [pt r,.map (some m),.int .i64 last]::mp m (kvs xs)::L):=by
 have hf:=findAt h1 hw hx;refine EN func120 ntmps120 rfl rfl λa E=>?_;refine RN 6 E I λa E=>?_;replace E:=E.aM 6;refine RN 7 E I λa E=>?_;refine SS E (It E underlying218 underlying166 Ty.t219 I (v:=pt pb) (by rw[hf];rfl)) λa E=>?_;refine RT 1 E I ?_;exact⟨rfl,I⟩
theorem IH {last:Nat}{X:Int}(I:U W w (aa q 221 [pt r,.map (some m),.int .i64 last]::mp m (kvs xs)::L))(h1:xs.map (·.1)=A.ar)(hn:∀ y∈A.ar,(y.id:Int)≠X) :
   Calls prog 120 #[pt q,.int .i64 X] w λe w'=>e=.returned (.pointer none) ∧
    U W w' (aa q 221 [pt r,.map (some m),.int .i64 last]::mp m (kvs xs)::L):=by
 have hf:mR (kvs xs) X 0=none:=Ip (λp hp=>by
  obtain⟨z,hz,rfl⟩:=cV.1 hp;exact hn z.1 (by rw[← h1];exact cV.2 ⟨z,hz,rfl⟩)) 0
 refine EN func120 ntmps120 rfl rfl λa E=>?_;refine RN 6 E I λa E=>?_;replace E:=E.aM 6;refine RN 7 E I λa E=>?_;refine SS E (It E underlying218 underlying166 Ty.t219 I (v:=.pointer none) (by rw[hf];rfl)) λa E=>?_;refine RT 1 E I ?_;exact⟨rfl,I⟩
theorem Uf (I:U W w (ax q r A::L))(hx:A.ar[i]?=some x) :
   Calls prog 214 #[pt q,.int .i64 x.id] w λe w'=>e=.returned (.int .i64 x.refs)∧U W w' (ax q r A::L):=by
 obtain⟨b,m,ps,xs,h1,hw,hr,I⟩:=ax.open I;obtain⟨pb,ba⟩:=qc h1 hx;refine EN func214 ntmps214 rfl rfl λa E=>?_;refine CL 5 E I (qd I h1 hw ba) λa w E I=>?_;refine RN 5 E I λa E=>?_;replace E:=E.aM 10;refine RN 2 E I λa E=>?_;replace I:=I.qX ba;refine RN 3 E I λa E=>?_;refine SS E (ae E (I.bz aC.ref)) λa E=>?_;refine RT 1 E I ?_;exact⟨rfl,ax.tM (b:=b) (m:=m) (ps:=ps) (pb:=pb) (y:=x) I ba h1 rfl (xv hx) hw hr⟩
theorem Ug {X:Int}(I:U W w (ax q r A::L))(hn:∀ y∈A.ar,(y.id:Int)≠X) :
   Calls prog 214 #[pt q,.int .i64 X] w λe w'=>e=.returned (.int .i64 0)∧U W w' (ax q r A::L):=by
 obtain⟨b,m,ps,xs,h1,hw,hr,I⟩:=ax.open I;refine EN func214 ntmps214 rfl rfl λa E=>?_;refine CL 5 E I (IH I h1 hn) λa w E I=>?_;refine RN 5 E I λa E=>?_;replace E:=E.eh 10;refine RT 3 E I ?_;exact⟨rfl,ax.close (b:=b) (m:=m) I h1 hw hr⟩
theorem zI {c:Nat}(h:c<4096):IntKind.i64.wrap ((c:Int).tdiv 8)=(c:Int).tdiv 8:=by
 rw[show (c:Int).tdiv 8=((c/8:Nat):Int) from qO c 8];exact gi (by omega) (by omega)
theorem II {c:Nat}(I:U W w (ax q r A::L))(hx:A.ar[i]?=some x)(hc:c<32) :
   Calls prog 308 #[pt q,.int .i64 x.id,.int .i64 c] w λe w'=>e=.returned (.tuple #[.int .i32 (x.g c),.bool true])∧U W w' (ax q r A::L):=by
 obtain⟨b,m,ps,xs,h1,hw,hr,I⟩:=ax.open I;obtain⟨pb,ba⟩:=qc h1 hx;obtain⟨gz,hX,sw⟩:=hr.live (bH hx) (k:=c/8) (by omega);refine EN func308 ntmps308 rfl rfl λa E=>?_;refine CL 6 E I (qd I h1 hw ba) λa w E I=>?_;refine RN 6 E I λa E=>?_;replace E:=E.aM 14;refine RN 4 E I λa E=>?_;rw[bq (by omega)]at E;refine RN 3 E I λa E=>?_;rw[bq (by omega)]at E;refine RN 2 E I λa E=>?_;replace I:=I.qX ba;refine bQ 0 [10] [0,1,2,4,5,6,7,8,9,11,12,3003,1010,1013,14,15,16,17] E I λa w E I hH hC=>?_;refine RH 5 E I hH hC λa E=>?_;refine QP E (λw=>vk E (by decide) (zI (by omega))) λa E=>?_;rw[show (c:Int).tdiv 8=((c/8:Nat):Int) from qO c 8]at E;refine RH 4 E I hH hC λa E=>?_;refine QP E (λw=>zl E (by decide)) λa E=>?_;rw[show (c:Int).tmod 8=((c%8:Nat):Int) from nY c 8]at E;refine RH 1 E I hH hC λa E=>?_;refine SS E (ae E (I.bz (aC.at (by omega)))) λa E=>?_;refine RH 0 E I hH hC λa E=>?_;refine CL 0 E I (TB (I.pick (Room r b ps)) gz hX (Nat.mod_lt c (by decide))) λa w E I=>?_;refine RN 4 E I λa E=>?_;refine RT 0 E I ?_;exact⟨by rw[sw _ (Nat.mod_lt c (by decide)),show 8*(c/8)+c%8=c from by omega],ax.tM (b:=b) (m:=m) (ps:=ps) (pb:=pb) (y:=x) I ba h1 rfl (xv hx) hw hr⟩
theorem IJ {A:Sn}(h1:xs.map (·.1)=A.ar)(hw:WF A):∀ p∈kvs xs,p.1≠((A.last+1:Nat):Int):=by
 intro p hp;obtain⟨z,hz,rfl⟩:=cV.1 hp;have:=(hw.mg z.1 (by rw[← h1];exact cV.2 ⟨z,hz,rfl⟩)).2.1;simp only;omega
theorem Uh {i:Int}(h1:-9223372036854775808≤i)(h2:i≤9223372036854775807):(Lit.int .i64 i).wf=true:=(Lit.wf_int_iff .i64 i).2 ⟨h1,h2⟩
theorem IK {last:Nat}(I:U W w (aa q 221 [pt r,.map (some m),.int .i64 last]::mp m (kvs xs)::L))(hl:last<1099511627776)(hn:∀ p∈kvs xs,p.1≠((last+1:Nat):Int)) :
   Calls prog 129 #[pt q,.agg (aC.cells x).toArray] w λe w'=>∃ pb,e=.returned (.int .i64 ((last+1:Nat):Int)) ∧
    U W w' (aa q 221 [pt r,.map (some m),.int .i64 ((last+1:Nat):Int)]::mp m (kvs xs++[(((last+1:Nat):Int),pt pb)])::aa pb 232 (aC.cells { x with refs:=1 })::L):=by
 refine EN func129 ntmps129 rfl rfl λa E=>?_;refine BX 1 E I λb3 a w E I=>?_;refine RN 7 E I λa E=>?_;rw[show ((last:Int)+1)=((last+1:Nat):Int) from rfl]at E;refine ST 2 E I (λa w E I=>?_);refine ST 2 E I (λa w E I=>?_) (hlt:=(by rw[aC.len];decide));rw[show (Value.int IntKind.i64 1)=.int .i64 ((1:Nat):Int) from rfl,aC.CY]at I;refine bQ 1 [7] [0,1,2,4,5,6,3003,1007,1008] E I λa w E I hH hC=>?_;refine RH 8 E I hH hC λa E=>?_;refine TO E rfl I underlying218 underlying166 (Uh (by omega) (by omega)) hn λa w E I=>?_;refine RT 6 E I ?_;exact⟨b3,rfl,I.sub⟩
theorem U.C6 {e:Nat}(I:U W w L)(pb:Nat)[k:fC L pb e x.cells R]:Rd w pb 0 (ints .i64 4 (λk=>(x.p k:Int)+1)):=by
 have:=I.pX (b:=pb) (off:=0) (cs:=x.cells) 4 (sc:=lZ.any)
 rwa [drop_zero,aC.cells,List.take_left' (dd _ _ _)]at this
theorem IL (I:U W w (ax q r A::L))(hx:A.ar[i]?=some x)(hb:A.n+1<1099511627776) :
   Calls prog 181 #[pt q,.int .i64 x.id] w λe w'=>e=.returned (.tuple #[.int .i64 ((A.last+1:Nat):Int),.bool true])∧U W w' (ax q r (A.add x.g x.p)::L):=by
 obtain⟨b,m,ps,xs,h1,hw,hr,I⟩:=ax.open I;obtain⟨pb,ba⟩:=qc h1 hx;have eC:=bH hx;have tN:=hw.last;have zJ:=hr.add eC;have zK:=hw.add hb x.g x.p;have dj:=zJ.ok zK;refine EN func181 ntmps181 rfl rfl λa E=>?_;refine CL 6 E I (qd I h1 hw ba) λa w E I=>?_;refine RN 5 E I λa E=>?_;replace E:=E.aM 13;refine RN 3 E I λa E=>?_;replace I:=I.qX ba;refine RN 3 E I λa E=>?_;refine SS E (bS E underlying230 rfl Ty.t230 (I.C6 pb)) λa E=>?_;refine RN 1 E I λa E=>?_;refine aO (λμ a w=>∃ k:Nat,(μ=4-k∧k≤4)∧Fr a 33 [(0,pt q),(6,pt pb),(17,.agg (ints .i64 4 (λk=>(x.p k:Int)+1)).toArray),(18,.int .i64 k)]∧U W w (Room r b (hE ps x k)::aa pb 232 x.cells::ah iP (xs.eraseIdx i)::aa q 221 [pt r,.map (some m),.int .i64 A.last]::mp m (kvs xs)::L)) (4) (⟨0,⟨by simp,by simp⟩,E.ab [0,6,17,18],by rw[T9];exact I.sub⟩) ?_;clear E I;rintro μ a w ⟨k,⟨rfl,hk⟩,E,I⟩;have Ui:=xr ps x k;refine IF 3 E I (λao a E=>?_) λao a E=>?_
 ·
  refine RN 2 E I λa E=>?_;refine SS E (r5 E underlying230 underlying3 rfl Ty.t3 (by omega) (fN _ (by omega))) λa E=>?_;refine RN 1 E I λa E=>?_;obtain⟨gz,hX,sw⟩:=hr.live eC (k:=k) (by omega);have vt:x.p k<(hE ps x k).length:=by omega
  have C7:=Ub vt;have Uj:(hE ps x k)[x.p k].refs+1<4611686018427387904:=by
   have h3:=sm x (x.p k) (m:=k+1) (n:=4) (by omega);have h4:=dj.2 _ (getElem_mem (show x.p k<(hE ps x 4).length by rw[xr];exact gz));rw[xt]at h4 ⊢;rw[kM,ak rfl]at h3;simp only at h4 ⊢;omega
  have C8:0<(hE ps x k)[x.p k].refs:=by rw[xt];simp only;omega
  refine CL 5 E I (TA (I.pick (Room r b (hE ps x k))) vt C8 Uj) λa w E I=>?_;rw[C7]at I;refine RN 2 E I λa E=>?_;exact⟨4-(k+1),by omega,k+1,⟨rfl,by omega⟩,E.ab [0,6,17,18],I.sub⟩
 obtain rfl:k=4:=by omega
 refine bh 5 E I (IK (q:=q) (r:=r) (m:=m) (last:=A.last) (L:=Room r b (hE ps x 4)::aa pb 232 x.cells::ah iP (xs.eraseIdx i)::L) I.sub (by have:=hw.bound;omega) (IJ h1 hw)) λvu a w E I=>?_;refine RT 2 E I ?_;refine⟨rfl,?_⟩;have hi:=(a2.1 ba).1;have h5:=U.kI (f:=iP) (x:=(x,pb)) hi (I.sub (M:=aa pb 232 x.cells::ah iP (xs.eraseIdx i)::aa vu 232 (aC.cells { x with refs:=1 })::aa q 221 [pt r,.map (some m),.int .i64 ((A.last+1:Nat):Int)]::mp m (kvs xs++[(((A.last+1:Nat):Int),pt vu)])::Room r b (hE ps x 4)::L));rw[show xs.set i (x,pb)=xs from by
  have:=a2.1 ba;rw[← this.2,set_getElem_self]]at h5
 have h6:=U.jM (f:=iP) (x:=(⟨A.last+1,1,x.g,x.p⟩,vu)) (h5.perm (List.Perm.swap _ _ _));rw[show kvs xs++[(((A.last+1:Nat):Int),Value.pointer (some ⟨vu,0,none⟩))]=kvs (xs++[(⟨A.last+1,1,x.g,x.p⟩,vu)]) from by simp[kvs]]at h6;exact ax.close (last:=A.last+1) (b:=b) (m:=m) (xs:=xs++[(⟨A.last+1,1,x.g,x.p⟩,vu)]) h6 (by simp[Sn.add,h1]) zK zJ
theorem Uk (I:U W w (ax q r A::L))(hx:A.ar[i]?=some x)(h2:x.refs≠1) :
   Calls prog 185 #[pt q,.int .i64 x.id] w λe w'=>e=.returned (.bool true)∧U W w' (ax q r (A.drop i x)::L):=by
 obtain⟨b,m,ps,xs,h1,hw,hr,I⟩:=ax.open I;obtain⟨pb,ba⟩:=qc h1 hx;have vv:=hw.mg x (bH hx);have hA:A.drop i x={ A with n:=A.n,ar:=A.ar.set i { x with refs:=x.refs-1 } }:=by rw[Sn.drop,ag h2]
 have nu:=hw.bound;refine EN func185 ntmps185 rfl rfl λa E=>?_;refine CL 5 E I (qd I h1 hw ba) λa w E I=>?_;refine RN 5 E I λa E=>?_;replace E:=E.aM 12;refine RN 3 E I λa E=>?_;replace I:=I.qX ba;refine RN 3 E I λa E=>?_;refine SS E (ae E (I.bz aC.ref)) λa E=>?_;refine ST 3 E I (λa w E I=>?_) (hlt:=(by rw[aC.len];decide));rw[show ((x.refs:Int)-1)=((x.refs-1:Nat):Int) from by omega,aC.CY]at I;refine RN 4 E I λa E=>?_;refine SS E (ae E (I.bz aC.ref)) λa E=>?_;refine RN 1 E I λa E=>?_;rw[dg (by simp;omega)]at E;refine RT 3 E I ?_;exact⟨rfl,ax.tM (last:=A.last) (b:=b) (m:=m) (ps:=ps) (pb:=pb) (y:={ x with refs:=x.refs-1 }) (B:=A.drop i x) I ba h1 rfl (by rw[hA]) (by rw[hA];exact hw.set nu (a7 _) hx rfl (by simp only;omega)) (by rw[hA];exact hr.Ud hx)⟩
theorem Ul (I:U W w (ax q r A::L))(hx:A.ar[i]?=some x)(h2:x.refs=1) :
   Calls prog 185 #[pt q,.int .i64 x.id] w λe w'=>e=.returned (.bool true)∧U W w' (ax q r (A.drop i x)::L):=by
 obtain⟨b,m,ps,xs,h1,hw,hr,I⟩:=ax.open I;obtain⟨pb,ba⟩:=qc h1 hx;have eC:=bH hx;have hA:A.drop i x={ A with ar:=A.ar.eraseIdx i }:=by rw[Sn.drop,ak h2]
 refine EN func185 ntmps185 rfl rfl λa E=>?_;refine CL 5 E I (qd I h1 hw ba) λa w E I=>?_;refine RN 5 E I λa E=>?_;replace E:=E.aM 12;refine RN 3 E I λa E=>?_;replace I:=I.qX ba;refine RN 3 E I λa E=>?_;refine SS E (ae E (I.bz aC.ref)) λa E=>?_;refine ST 3 E I (λa w E I=>?_) (hlt:=(by rw[aC.len];decide));rw[show ((x.refs:Int)-1)=((x.refs-1:Nat):Int) from by omega,aC.CY]at I;refine RN 4 E I λa E=>?_;refine SS E (ae E (I.bz aC.ref)) λa E=>?_;refine RN 1 E I λa E=>?_;rw[bq (by simp;omega)]at E;refine RN 6 E I λa E=>?_;refine SS E (bS E underlying230 rfl Ty.t230 (I.C6 (x:={ x with refs:=x.refs-1 }) pb)) λa E=>?_;refine RN 1 E I λa E=>?_;refine aO (λμ a w=>∃ k:Nat,(μ=4-k∧k≤4)∧Fr a 44 [(0,pt q),(1,.int .i64 x.id),(28,.agg (ints .i64 4 (λk=>(x.p k:Int)+1)).toArray),(29,.int .i64 k)]∧U W w (Room r b (jf ps x k)::ah iP (xs.eraseIdx i)::aa q 221 [pt r,.map (some m),.int .i64 A.last]::mp m (kvs xs)::L)) (4) (⟨0,⟨by simp,by simp⟩,E.ab [0,1,28,29],by rw[Ua];exact I.sub⟩) ?_;clear E I;rintro μ a w ⟨k,⟨rfl,hk⟩,E,I⟩;have Ui:=zF ps x k;refine IF 3 E I (λay a E=>?_) λay a E=>?_
 ·
  refine RN 2 E I λa E=>?_;refine SS E (r5 E underlying230 underlying3 rfl Ty.t3 (by omega) (fN _ (by omega))) λa E=>?_;refine RN 1 E I λa E=>?_;obtain⟨gz,hX,sw⟩:=hr.live eC (k:=k) (by omega);have vt:x.p k<(jf ps x k).length:=by omega
  have C7:=Uc vt;have C8:0<(jf ps x k)[x.p k].refs:=by
   have h3:=sm x (x.p k) (m:=k+1) (n:=4) (by omega);have h4:=hr.refs _ _ (aE gz);have h5:iO x (x.p k) 4≤cQ A.ar (x.p k):=tK eC (x.p k);rw[kM,ak rfl]at h3;rw[zG];simp only;omega
  refine CL 5 E I (Il (I.pick (Room r b (jf ps x k))) vt C8) λa w E I=>?_;rw[C7]at I;refine RN 2 E I λa E=>?_;exact⟨4-(k+1),by omega,k+1,⟨rfl,by omega⟩,E.ab [0,1,28,29],I.sub⟩
 obtain rfl:k=4:=by omega
 refine RN 6 E I λa E=>?_;refine TP E rfl I underlying218 underlying166 (findAt h1 hw ba) λa w E I=>?_;refine RT 2 E I ?_;have hk:(kvs xs).eraseIdx i=kvs (xs.eraseIdx i):=(xn _ _ _).symm;rw[hk]at I;exact⟨rfl,ax.close (last:=A.last) (b:=b) (m:=m) (ps:=jf ps x 4) (xs:=xs.eraseIdx i) I (by rw[hA,xn,h1]) (by rw[hA];exact hw.erase i) (by rw[hA];exact hr.erase hx) (by rw[hA])⟩
theorem Um (I:U W w (ax q r A::L))(hx:A.ar[i]?=some x) :
   Calls prog 185 #[pt q,.int .i64 x.id] w λe w'=>e=.returned (.bool true)∧U W w' (ax q r (A.drop i x)::L):=by
 by_cases h:x.refs=1
 ·exact Ul I hx h
 ·exact Uk I hx h
theorem Un {X:Int}(I:U W w (ax q r A::L))(hn:∀ y∈A.ar,(y.id:Int)≠X) :
   Calls prog 185 #[pt q,.int .i64 X] w λe w'=>e=.returned (.bool false)∧U W w' (ax q r A::L):=by
 obtain⟨b,m,ps,xs,h1,hw,hr,I⟩:=ax.open I;refine EN func185 ntmps185 rfl rfl λa E=>?_;refine CL 5 E I (IH I h1 hn) λa w E I=>?_;refine RN 5 E I λa E=>?_;replace E:=E.eh 12;refine RT 3 E I ?_;exact⟨rfl,ax.close (b:=b) (m:=m) I h1 hw hr⟩
theorem WF.put (hw:WF A)(hx:A.ar[i]?=some x){g:Nat→Int}{p:Nat→Nat}:WF { A with ar:=A.ar.set i { x with g:=g,p:=p } } :=
 hw.set (n:=A.n) (y:={ x with g:=g,p:=p }) hw.bound (a7 _) hx rfl (by have:=hw.mg x (bH hx);simp only;omega)
theorem Uo {c:Nat}{v:Int}(I:U W w (ax q r A::L))(hx:A.ar[i]?=some x)(hc:c<32)(h1:cQ A.ar (x.p (c/8))=1) :
   Calls prog 346 #[pt q,.int .i64 x.id,.int .i64 c,.int .i32 v] w λe w'=>e=.returned (.bool true)∧U W w' (ax q r (A.put i x c v)::L):=by
 obtain⟨b,m,ps,xs,h2,hw,hr,I⟩:=ax.open I;obtain⟨pb,ba⟩:=qc h2 hx;obtain⟨gz,hX,sw⟩:=hr.live (bH hx) (k:=c/8) (by omega);have vw:ps[x.p (c/8)].refs=1:=by rw[hr.refs _ _ (aE gz)];exact h1
 refine EN func346 ntmps346 rfl rfl λa E=>?_;refine CL 5 E I (qd I h2 hw ba) λa w E I=>?_;refine RN 6 E I λa E=>?_;replace E:=E.aM 18;refine RN 4 E I λa E=>?_;rw[bq (by omega)]at E;refine RN 3 E I λa E=>?_;rw[bq (by omega)]at E;refine RN 2 E I λa E=>?_;replace I:=I.qX ba;refine RN 2 E I λa E=>?_;refine SS E (vk E (by decide) (zI (by omega))) λa E=>?_;rw[show (c:Int).tdiv 8=((c/8:Nat):Int) from qO c 8]at E;refine bQ 6 [6] [0,1,2,4,5,3003,1006,1007,8] E I λa w E I hH hC=>?_;refine RH 6 E I hH hC λa E=>?_;refine SS E (ae E (I.bz (aC.at (by omega)))) λa E=>?_;refine RH 0 E I hH hC λa E=>?_;refine CL 0 E I (zu (I.pick (Room r b ps)) gz hX) λa w E I=>?_;rw[vw]at E;refine RN 1 E I λa E=>?_;rw[bq (by omega)]at E;refine bQ 2 [6] [0,1,2,4,5,7,8,9,3003,1006,1010,11] E I λa w E I hH hC=>?_;refine RH 6 E I hH hC λa E=>?_;refine QP E (λw=>zl E (by decide)) λa E=>?_;rw[show (c:Int).tmod 8=((c%8:Nat):Int) from nY c 8]at E;refine RH 2 E I hH hC λa E=>?_;refine SS E (ae E (I.bz (aC.at (by omega)))) λa E=>?_;refine RH 0 E I hH hC λa E=>?_;refine CL 0 E I (CR (I.pick (Room r b ps)) gz vw (Nat.mod_lt c (by decide))) λa w E I=>?_;refine RN 1 E I λa E=>?_;refine RT 0 E I ?_;rw[show x.cells=aC.cells { x with g:=ck x.g c v } from rfl]at I;exact⟨rfl,ax.tM (B:=A.put i x c v) (last:=A.last) (b:=b) (m:=m) (pb:=pb) (y:={ x with g:=ck x.g c v }) (ps:=ps.set (x.p (c/8)) ⟨λj=>if j=c%8 then v else ps[x.p (c/8)].g j,1⟩) I ba h2 rfl rfl (hw.put hx) (hr.put hx hc h1 v gz)⟩
theorem IM {ps:List Pg}(h:zw ps):jQ ps=ps.length:=by
 rw[jQ,List.countP_eq_length];intro p hp;obtain⟨i,hi,rfl⟩:=List.mem_iff_getElem.1 hp;have:=h i hi;simp;omega
theorem Up {ps:List Pg}{f:Nat}(h:tH ps f):jQ ps<ps.length:=by
 obtain⟨hf,h0,_⟩:=h;have h1:=vp ps;rcases Nat.lt_or_ge (jQ ps) ps.length with h2 | h2
 ·exact h2
 ·have:=(List.countP_eq_length (p:=λp:Pg=>decide (0<p.refs)) (l:=ps)).1 (Nat.le_antisymm h1 h2) _ (getElem_mem hf);simp at this;omega
theorem Uq {c:Nat}{v:Int}(I:U W w (ax q r A::L))(hx:A.ar[i]?=some x)(hc:c<32)(h1:1<cQ A.ar (x.p (c/8)))(hu:A.used<A.room) :
   Calls prog 346 #[pt q,.int .i64 x.id,.int .i64 c,.int .i32 v] w λe w'=>∃ f,e=.returned (.bool true)∧(f<A.room∧cQ A.ar f=0)∧U W w' (ax q r (A.tL i x c v f)::L):=by
 obtain⟨b,m,ps,xs,h2,hw,hr,I⟩:=ax.open I;obtain⟨pb,ba⟩:=qc h2 hx;obtain⟨gz,hX,sw⟩:=hr.live (bH hx) (k:=c/8) (by omega);have vw:ps[x.p (c/8)].refs=cQ A.ar (x.p (c/8)):=hr.refs _ _ (aE gz);rcases CS ps with bR | ⟨f,hf⟩
 ·have:=IM bR;rw[hr.used,hr.len]at this;omega
 have iZ:=hf.1;have jz:=hf.2.1;have C4:cQ A.ar f=0:=by rw[← hr.refs f _ (aE iZ)];exact jz
 have bD:x.p (c/8)≠f:=by
  intro e;rw[e]at h1;omega
 have kN:x.p (c/8)<(ps.set f ⟨ps[x.p (c/8)].g,1⟩).length:=by rw[bu];exact gz
 have e1:(ps.set f ⟨ps[x.p (c/8)].g,1⟩)[x.p (c/8)]=ps[x.p (c/8)]:=List.getElem_set_ne (Ne.symm bD) _;have kq:f<((ps.set f ⟨ps[x.p (c/8)].g,1⟩).set (x.p (c/8)) ⟨ps[x.p (c/8)].g,ps[x.p (c/8)].refs-1⟩).length:=by rw[bu,bu];exact iZ
 have e2:((ps.set f ⟨ps[x.p (c/8)].g,1⟩).set (x.p (c/8)) ⟨ps[x.p (c/8)].g,ps[x.p (c/8)].refs-1⟩)[f]=⟨ps[x.p (c/8)].g,1⟩:=by rw[List.getElem_set_ne bD,getElem_set_self]
 have fv:((ps.set f ⟨ps[x.p (c/8)].g,1⟩).set (x.p (c/8)) ⟨ps[x.p (c/8)].g,ps[x.p (c/8)].refs-1⟩).set f ⟨λj=>if j=c%8 then v else ps[x.p (c/8)].g j,1⟩=(ps.set (x.p (c/8)) ⟨ps[x.p (c/8)].g,ps[x.p (c/8)].refs-1⟩).set f ⟨λj=>if j=c%8 then v else ps[x.p (c/8)].g j,1⟩:=by
  rw[List.set_comm _ _ (Ne.symm bD),set_set]
 refine EN func346 ntmps346 rfl rfl λa E=>?_;refine CL 5 E I (qd I h2 hw ba) λa w E I=>?_;refine RN 6 E I λa E=>?_;replace E:=E.aM 18;refine RN 4 E I λa E=>?_;rw[bq (by omega)]at E;refine RN 3 E I λa E=>?_;rw[bq (by omega)]at E;refine RN 2 E I λa E=>?_;replace I:=I.qX ba;refine RN 2 E I λa E=>?_;refine SS E (vk E (by decide) (zI (by omega))) λa E=>?_;rw[show (c:Int).tdiv 8=((c/8:Nat):Int) from qO c 8]at E;refine bQ 6 [6] [0,1,2,4,5,3003,1006,1007,8] E I λa w E I hH hC=>?_;refine RH 6 E I hH hC λa E=>?_;refine SS E (ae E (I.bz (aC.at (by omega)))) λa E=>?_;refine RH 0 E I hH hC λa E=>?_;refine CL 0 E I (zu (I.pick (Room r b ps)) gz hX) λa w E I=>?_;refine RN 1 E I λa E=>?_;rw[dg (by omega)]at E;refine bQ 2 [6] [0,1,2,4,5,3003,1006,1007,8,9,10,11,12] E I λa w E I hH hC=>?_;refine RH 6 E I hH hC λa E=>?_;refine SS E (ae E (I.bz (aC.at (by omega)))) λa E=>?_;refine RH 0 E I hH hC λa E=>?_;refine CL 0 E I (TF (I.pick (Room r b ps)) gz hX hf) λa w E I=>?_;refine RN 5 E I λa E=>?_;refine RN 4 E I λa E=>?_;replace E:=E.aM 53;refine bQ 2 [6] [0,1,2,4,5,3003,1006,1007] E I λa w E I hH hC=>?_;refine RH 6 E I hH hC λa E=>?_;refine SS E (ae E (I.bz (aC.at (by omega)))) λa E=>?_;refine RH 0 E I hH hC λa E=>?_;refine CL 0 E I (Il (I.pick (Room r b (ps.set f ⟨ps[x.p (c/8)].g,1⟩))) kN (by rw[e1];exact hX)) λa w E I=>?_;rw[e1]at I;refine ST 3 E I (λa w E I=>?_) (hlt:=(by rw[aC.len];omega));rw[aC.T7 (by omega) (ck x.g c v)]at I;refine bQ 1 [6] [0,1,2,4,5,7,8,9,3003,1006,1010,11] E I λa w E I hH hC=>?_;refine RH 6 E I hH hC λa E=>?_;refine QP E (λw=>zl E (by decide)) λa E=>?_;rw[show (c:Int).tmod 8=((c%8:Nat):Int) from nY c 8]at E;refine RH 2 E I hH hC λa E=>?_;refine SS E (ae E (I.bz (aC.at (x:={ x with p:=λj=>if j=c/8 then f else x.p j,g:=ck x.g c v }) (by omega)))) λa E=>?_;simp only[if_true]at E;refine RH 0 E I hH hC λa E=>?_;refine CL 0 E I (CR (I.pick (Room r b ((ps.set f ⟨ps[x.p (c/8)].g,1⟩).set (x.p (c/8)) ⟨ps[x.p (c/8)].g,ps[x.p (c/8)].refs-1⟩))) kq (by rw[e2]) (Nat.mod_lt c (by decide))) λa w E I=>?_;rw[e2,fv]at I;refine RN 1 E I λa E=>?_;refine RT 0 E I ?_;exact⟨f,rfl,⟨hr.len ▸ iZ,C4⟩,ax.tM (B:=A.tL i x c v f) (last:=A.last) (b:=b) (m:=m) (pb:=pb) (y:={ x with p:=λj=>if j=c/8 then f else x.p j,g:=ck x.g c v }) I ba h2 rfl rfl (hw.put hx) (hr.tL hx hc h1 v gz iZ jz)⟩
theorem Ur {c:Nat}{v:Int}(I:U W w (ax q r A::L))(hx:A.ar[i]?=some x)(hc:c<32)(h1:1<cQ A.ar (x.p (c/8)))(hu:A.room≤A.used) :
   Calls prog 346 #[pt q,.int .i64 x.id,.int .i64 c,.int .i32 v] w λe w'=>e=.returned (.bool false)∧U W w' (ax q r A::L):=by
 obtain⟨b,m,ps,xs,h2,hw,hr,I⟩:=ax.open I;obtain⟨pb,ba⟩:=qc h2 hx;obtain⟨gz,hX,sw⟩:=hr.live (bH hx) (k:=c/8) (by omega);have vw:ps[x.p (c/8)].refs=cQ A.ar (x.p (c/8)):=hr.refs _ _ (aE gz);rcases CS ps with bR | ⟨f,hf⟩
 rotate_left
 ·have:=Up hf;rw[hr.used,hr.len]at this;omega
 refine EN func346 ntmps346 rfl rfl λa E=>?_;refine CL 5 E I (qd I h2 hw ba) λa w E I=>?_;refine RN 6 E I λa E=>?_;replace E:=E.aM 18;refine RN 4 E I λa E=>?_;rw[bq (by omega)]at E;refine RN 3 E I λa E=>?_;rw[bq (by omega)]at E;refine RN 2 E I λa E=>?_;replace I:=I.qX ba;refine RN 2 E I λa E=>?_;refine SS E (vk E (by decide) (zI (by omega))) λa E=>?_;rw[show (c:Int).tdiv 8=((c/8:Nat):Int) from qO c 8]at E;refine bQ 6 [6] [0,1,2,4,5,3003,1006,1007,8] E I λa w E I hH hC=>?_;refine RH 6 E I hH hC λa E=>?_;refine SS E (ae E (I.bz (aC.at (by omega)))) λa E=>?_;refine RH 0 E I hH hC λa E=>?_;refine CL 0 E I (zu (I.pick (Room r b ps)) gz hX) λa w E I=>?_;refine RN 1 E I λa E=>?_;rw[dg (by omega)]at E;refine bQ 2 [6] [0,1,2,4,5,3003,1006,1007,8,9,10,11,12] E I λa w E I hH hC=>?_;refine RH 6 E I hH hC λa E=>?_;refine SS E (ae E (I.bz (aC.at (by omega)))) λa E=>?_;refine RH 0 E I hH hC λa E=>?_;refine CL 0 E I (TD (I.pick (Room r b ps)) gz hX bR) λa w E I=>?_;refine RN 5 E I λa E=>?_;refine RN 4 E I λa E=>?_;replace E:=E.eh 53;refine RT 3 E I ?_;exact⟨rfl,ax.tM (b:=b) (m:=m) (ps:=ps) (pb:=pb) (y:=x) I ba h2 rfl (xv hx) hw hr⟩
end
end
end Go.Proofs.YteoldcfapaiobaaGreat
