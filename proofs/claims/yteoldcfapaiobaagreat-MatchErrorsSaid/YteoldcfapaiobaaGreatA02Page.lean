/- The walks of package page. -/
import Derived.Test.YteoldcfapaiobaaGreatA01Row
import Derived.Maps.Own
import Derived.Shelf.SlIterI.Nil
import Derived.Shelf.SortM.Plain
import Derived.Shelf.SortM.SortNone
import Derived.DataShut
namespace Go.Proofs.YteoldcfapaiobaaGreat
open Tryz
open List (mem_cons_self drop_zero take_zero nil_append map_cons set_append_right set_append_left getElem?_cons_succ length_nil mem_range getElem?_toArray getElem?_range ext_getElem eraseIdx_eq_take_drop_succ getElem_set_self eraseIdx_set_eq take_length ext_getElem? mem_or_eq_of_mem_set getElem_mem set_set map_take map_drop mem_singleton map_nil range_succ countP_congr getElem?_set_ne getElem?_set_self set_getElem_self)
open Go.RowKit
set_option linter.unusedVariables false
set_option linter.unusedSimpArgs false
set_option maxRecDepth 10000
set_option synthInstance.maxSize 4000
set_option synthInstance.maxHeartbeats 400000
section
structure Pg where
 g:Nat→Int
 refs:Nat
def Pg.cells (p:Pg):List Value:=ints .i32 8 p.g++[.int .i64 p.refs]
def hQ (ps:List Pg):List Value:=rows Pg.cells ps
def rR:Pg:=⟨λ_=>0,0⟩
def oN:Pg:=⟨λ_=>0,1⟩
theorem Pg.len (p:Pg):p.cells.length=9:=by simp[Pg.cells,di]
theorem uZ (ps:List Pg):(hQ ps).length=ps.length*9:=iT Pg.len ps
theorem Pg.one (p:Pg):∀ v∈p.cells,v.oneCell'=true:=by
 intro v hv;rcases eV.1 hv with h | h
 ·exact td v h
 ·simp at h;subst h;rfl
theorem rS {ps:List Pg}{i:Nat}(h:i<ps.length):(hQ ps)[i*9+8]?=some (.int .i64 ps[i].refs):=BI Pg.len ps h (by simp[Pg.cells,di])
theorem Sb {ps:List Pg}{i k:Nat}(h:i<ps.length)(hk:k<8):(hQ ps)[i*9+k]?=some (.int .i32 (ps[i].g k)):=BI Pg.len ps h (by
 rw[Pg.cells,lM (by rw[di];exact hk),fO _ hk])
theorem Hx {ps:List Pg}{i r:Nat}(h:i<ps.length):(hQ ps).set (i*9+8) (.int .i64 r)=hQ (ps.set i ⟨ps[i].g,r⟩):=pM Pg.len ps _ h (by decide) (by
 rw[Pg.cells,set_append_right _ _ (by rw[di];exact bh _),di];rfl)
theorem Sc {ps:List Pg}{i k:Nat}{v:Int}(h:i<ps.length)(hk:k<8):(hQ ps).set (i*9+k) (.int .i32 v)=hQ (ps.set i ⟨λj=>if j=k then v else ps[i].g j,ps[i].refs⟩):=pM Pg.len ps _ h (by omega) (by
 rw[Pg.cells,set_append_left _ _ (by rw[di];exact hk),ints_set];rfl)
theorem Sd {ps:List Pg}{i:Nat}(p:Pg)(h:i<ps.length):cC (hQ ps) (i*9) p.cells=hQ (ps.set i p):=Hc Pg.len ps p h
theorem Se {ps:List Pg}{i:Nat}(h:i<ps.length):((hQ ps).drop (i*9)).take 8=ints .i32 8 ps[i].g:=by
 have:=Pw (k:=0) (m:=8) Pg.len ps h (by decide);simp only[Nat.add_zero,drop_zero]at this;rw[hQ,this,Pg.cells,List.take_left' (di _ _ _)]
theorem Sf {ps:List Pg}{i:Nat}{g:Nat→Int}(h:i<ps.length):cC (hQ ps) (i*9) (ints .i32 8 g)=hQ (ps.set i ⟨g,ps[i].refs⟩):=by
 have:=Pv (k:=0) (vs:=ints .i32 8 g) Pg.len ps ⟨g,ps[i].refs⟩ h (by rw[di];decide) (by
  simp only[cC,Pg.cells,take_zero,nil_append,di,Nat.zero_add];rw[List.drop_left' (di _ _ _)])
 rw[Nat.add_zero]at this;exact this
def Room (q b:Nat)(ps:List Pg):SP:=λh=>(ps.length≤200∧∀ p∈ps,p.refs<4611686018427387904)∧ck [aa q 224 [.slice (some ⟨b,0,none⟩) ps.length ps.length],aa b 227 (hQ ps)] h
theorem Room.open {W w:World}{L:List SP}{q b:Nat}{ps:List Pg}(I:V W w (Room q b ps::L)):(ps.length≤200∧∀ p∈ps,p.refs<4611686018427387904) ∧
   V W w (aa q 224 [.slice (some ⟨b,0,none⟩) ps.length ps.length]::aa b 227 (hQ ps)::L) :=
 ⟨I.tell λ_ h=>h.1,I.open λ_ h=>h.2⟩
theorem Room.close {W w:World}{L L' R:List SP}{q b n:Nat}{ps:List Pg}(I:V W w L)(hn:ps.length=n)(h:ps.length≤200∧∀ p∈ps,p.refs<4611686018427387904)
   [k:fD L (aa q 224 [.slice (some ⟨b,0,none⟩) n n]::aa b 227 (hQ ps)::L') R]:V W w (Room q b ps::L'):=by
 subst hn;exact V.shut (M:=[_,_]) (I.sub (M:=aa q 224 [.slice (some ⟨b,0,none⟩) ps.length ps.length]::aa b 227 (hQ ps)::L')) (λ_ x=>⟨h,x⟩)
theorem Sg (n:Nat):(madeCells (Value.cells (.agg #[.int .i32 0,.int .i32 0,.int .i32 0,.int .i32 0,.int .i32 0,.int .i32 0,.int .i32 0,.int .i32 0,.int .i64 0])) (n*9)).toList=hQ (List.replicate n rR):=by
 apply ext_getElem?;intro i;by_cases hi:i<n*9
 ·obtain⟨j,k,hk,rfl⟩:∃ j k,k<9∧i=j*9+k:=⟨i/9,i%9,Nat.mod_lt _ (by decide),by omega⟩;have hj:j<(List.replicate n rR).length:=by simp;omega
  have hv:(Pg.cells rR)[k]?=some ((Pg.cells rR)[k]'(by rw[Pg.len];exact hk)):=aO _;rw[hQ,BI Pg.len _ hj (by rw[List.getElem_replicate];exact hv)];simp only[madeCells,Value.cells,Array.toList_map,bn];rw[Array.toList_range,getElem?_range hi];have h1:(j*9+k)%9=k:=by omega
  simp only[Option.map_some,List.size_toArray,e9,length_nil,Nat.reduceAdd,h1,Option.some.injEq];rcases k with _ | _ | _ | _ | _ | _ | _ | _ | _ | k <;> first | rfl | omega
 ·rw[iP,iP]
  ·rw[uZ];simp;omega
  ·simp[madeCells];omega
theorem Sh {W w:World}{L:List SP}{n:Nat}(I:V W w L)(hn:n≤200) :
   Calls prog 124 #[.int .i64 n] w λe w'=>∃ q b,e=.returned (pt q)∧V W w' (Room q b (List.replicate n rR)::L):=by
 refine EN func124 ntmps124 rfl rfl λa E=>?_;refine RN 6 E I λa E=>?_;rw[show min (max (n:Int) 0) 200=(n:Int) from by omega]at E;refine cg E rfl I underlying222 Ty.t227 rfl (by omega) (by omega) λcG a w E I ho=>?_;clear ho;rw[Sg]at I;refine BX 1 E I λb8 a w E I=>?_;refine RT 1 E I ?_;refine⟨b8,cG,rfl,(Room.close (n:=_) I j8 ⟨by simp;exact hn,?_⟩)⟩;intro p hp;rw[(List.mem_replicate.1 hp).2];decide
section
variable {W w:World}{L:List SP}{q b i:Nat}{ps:List Pg}
theorem rT (I:V W w (Room q b ps::L))(hi:i<ps.length)(hr:0<ps[i].refs) :
   Calls prog 122 #[pt q,.int .i64 ((i:Int)+1)] w λe w'=>e=.returned (.pointer (some ⟨b,i*9,none⟩))∧V W w' (Room q b ps::L):=by
 obtain⟨hp,I⟩:=Room.open I;refine EN func122 ntmps122 rfl rfl λa E=>?_;refine RN 7 E I λa E=>?_;replace E:=E.aN 7;refine RN 4 E I λa E=>?_;rw[bq (by omega)]at E;refine RN 9 E I λa E=>?_;rw[bq (by omega)]at E;refine RN 6 E I λa E=>?_;rw[show (i:Int)+1-1=(i:Int) from by omega]at E;refine RN 2 E I λa E=>?_;refine bz E (cW E rfl (s:=20)) (ag E (I.bu (rS hi))) rfl λa E=>?_;refine RN 2 E I λa E=>?_;rw[bq (by omega)]at E;refine RN 8 E I λa E=>?_;rw[show (i:Int)+1-1=(i:Int) from by omega]at E;refine RT 2 E I ?_;exact⟨rfl,(Room.close (n:=_) I rfl hp)⟩
theorem V.Hy {R:List SP}{e:Nat}(I:V W w L)[k:fC L b e (hQ ps) R](hi:i<ps.length):Rd w b (i*9) (ints .i32 8 ps[i].g):=by
 rw[← Se hi];exact I.pD 8
theorem V.Si {R:List SP}{e:Nat}(I:V W w L)[k:fC L b e (hQ ps) R](hi:i<ps.length):Rd w b (i*9) ps[i].cells:=by
 rw[← uS Pg.len ps i hi];exact I.pD 9
theorem yS (I:V W w (Room q b ps::L))(hi:i<ps.length)(hr:0<ps[i].refs) :
   Calls prog 86 #[pt q,.int .i64 ((i:Int)+1)] w λe w'=>e=.returned (.int .i64 ps[i].refs)∧V W w' (Room q b ps::L):=by
 refine EN func86 ntmps86 rfl rfl λa E=>?_;refine CL 5 E I (rT I hi hr) λa w E I=>?_;refine RN 5 E I λa E=>?_;replace E:=E.aN 10;refine RN 2 E I λa E=>?_;obtain⟨hp,I⟩:=Room.open I;refine RN 3 E I λa E=>?_;refine SS E (ag E (I.bu (rS hi))) λa E=>?_;refine RT 1 E I ?_;exact⟨rfl,(Room.close (n:=_) I rfl hp)⟩
theorem wP {ps:List Pg}{i r:Nat}{g:Nat→Int}(hp:ps.length≤200∧∀ p∈ps,p.refs<4611686018427387904)(hr:r<4611686018427387904) :
   (ps.set i ⟨g,r⟩).length≤200∧∀ p∈ps.set i ⟨g,r⟩,p.refs<4611686018427387904:=by
 refine⟨by rw[br];exact hp.1,λp h=>?_⟩;rcases mem_or_eq_of_mem_set h with h | h
 ·exact hp.2 p h
 ·rw[h];exact hr
theorem Sj (I:V W w (Room q b ps::L))(hi:i<ps.length)(hr:0<ps[i].refs)(hb:ps[i].refs+1<4611686018427387904) :
   Calls prog 208 #[pt q,.int .i64 ((i:Int)+1)] w λe w'=>e=.returned (.bool true)∧V W w' (Room q b (ps.set i ⟨ps[i].g,ps[i].refs+1⟩)::L):=by
 refine EN func208 ntmps208 rfl rfl λa E=>?_;refine CL 5 E I (rT I hi hr) λa w E I=>?_;refine RN 5 E I λa E=>?_;replace E:=E.eo 10;refine RN 1 E I λa E=>?_;obtain⟨hp,I⟩:=Room.open I;refine RN 3 E I λa E=>?_;refine SS E (ag E (I.bu (rS hi))) λa E=>?_;refine ST 3 E I (λa w E I=>?_) (hlt:=(by rw[uZ];omega));rw[show ((ps[i].refs:Int)+1)=((ps[i].refs+1:Nat):Int) from rfl,Hx hi]at I;refine RT 4 E I ?_;exact⟨rfl,(Room.close (n:=ps.length) I br (wP hp hb))⟩
theorem Hz (I:V W w (Room q b ps::L))(hi:i<ps.length)(hr:0<ps[i].refs) :
   Calls prog 213 #[pt q,.int .i64 ((i:Int)+1)] w λe w'=>e=.returned (.bool true)∧V W w' (Room q b (ps.set i ⟨ps[i].g,ps[i].refs-1⟩)::L):=by
 refine EN func213 ntmps213 rfl rfl λa E=>?_;refine CL 5 E I (rT I hi hr) λa w E I=>?_;refine RN 5 E I λa E=>?_;replace E:=E.eo 10;refine RN 1 E I λa E=>?_;obtain⟨hp,I⟩:=Room.open I;have hb:=hp.2 _ (getElem_mem hi);refine RN 3 E I λa E=>?_;refine SS E (ag E (I.bu (rS hi))) λa E=>?_;refine ST 3 E I (λa w E I=>?_) (hlt:=(by rw[uZ];omega));rw[show ((ps[i].refs:Int)-1)=((ps[i].refs-1:Nat):Int) from by omega,Hx hi]at I;refine RT 4 E I ?_;exact⟨rfl,(Room.close (n:=ps.length) I br (wP hp (by omega)))⟩
theorem Sk {k:Nat}(I:V W w (Room q b ps::L))(hi:i<ps.length)(hr:0<ps[i].refs)(hk:k<8) :
   Calls prog 323 #[pt q,.int .i64 ((i:Int)+1),.int .i64 k] w λe w'=>e=.returned (.tuple #[.int .i32 (ps[i].g k),.bool true])∧V W w' (Room q b ps::L):=by
 refine EN func323 ntmps323 rfl rfl λa E=>?_;refine CL 6 E I (rT I hi hr) λa w E I=>?_;refine RN 6 E I λa E=>?_;replace E:=E.aN 14;refine RN 4 E I λa E=>?_;rw[bq (by omega)]at E;refine RN 3 E I λa E=>?_;rw[bq (by omega)]at E;refine RN 2 E I λa E=>?_;obtain⟨hp,I⟩:=Room.open I;refine RN 5 E I λa E=>?_;refine SS E (ag E (I.bu (Sb hi hk))) λa E=>?_;refine RT 2 E I ?_;exact⟨rfl,(Room.close (n:=_) I rfl hp)⟩
theorem B2 {k:Nat}{v:Int}(I:V W w (Room q b ps::L))(hi:i<ps.length)(hr:ps[i].refs=1)(hk:k<8) :
   Calls prog 128 #[pt q,.int .i64 ((i:Int)+1),.int .i64 k,.int .i32 v] w λe w'=>e=.returned (.bool true)∧V W w' (Room q b (ps.set i ⟨λj=>if j=k then v else ps[i].g j,1⟩)::L):=by
 refine EN func128 ntmps128 rfl rfl λa E=>?_;refine CL 5 E I (rT I hi (by omega)) λa w E I=>?_;refine RN 6 E I λa E=>?_;replace E:=E.aN 15;refine RN 4 E I λa E=>?_;rw[bq (by omega)]at E;refine RN 4 E I λa E=>?_;obtain⟨hp,I⟩:=Room.open I;rw[bq (by omega)]at E;refine RN 3 E I λa E=>?_;refine bz E (cW E rfl (s:=23)) (ag E (I.bu (rS hi))) rfl λa E=>?_;refine RN 2 E I λa E=>?_;rw[bq (by omega)]at E;refine ST 8 E I (λa w E I=>?_) (hlt:=(by rw[uZ];omega));rw[Sc hi hk,hr]at I;refine RT 2 E I ?_;exact⟨rfl,(Room.close (n:=ps.length) I br (wP hp (by omega)))⟩
def th (ps:List Pg)(i:Nat):Prop:=∃ h:i<ps.length,ps[i].refs=0∧∀ j,(hj:j<i)→0<ps[j].refs
def yT (ps:List Pg):Prop:=∀ j,(h:j<ps.length)→0<ps[j].refs
theorem B3 (ps:List Pg):yT ps∨∃ i,th ps i:=by
 have aux:∀ n,(∀ j,(h:j<ps.length)→j<n→0<ps[j].refs)∨∃ i,th ps i:=by
  intro n
  induction n with
  | zero=>exact .inl λj _ h=>by omega
  | succ n ih =>
   rcases ih with h | h
   ·by_cases hn:n<ps.length
    ·by_cases h0:ps[n].refs=0
     ·exact .inr ⟨n,hn,h0,λj hj=>h j (by omega) hj⟩
     ·refine .inl λj hj pN=>?_;rcases Nat.lt_or_ge j n with h1 | h1
      ·exact h j hj h1
      ·obtain rfl:j=n:=by omega
       omega
    ·exact .inl λj hj pN=>h j hj (by omega)
   ·exact .inr h
 rcases aux ps.length with h | h
 ·exact .inl λj hj=>h j hj hj
 ·exact .inr h
theorem HA (I:V W w (Room q b ps::L))(hf:th ps i) :
   Calls prog 126 #[pt q] w λe w'=>e=.returned (.tuple #[.int .i64 ((i:Int)+1),.bool true])∧V W w' (Room q b (ps.set i oN)::L):=by
 obtain⟨hi,h0,B4⟩:=hf;obtain⟨hp,I⟩:=Room.open I;refine EN func126 ntmps126 rfl rfl λa E=>?_;refine RN 7 E I λa E=>?_;replace E:=E.aN 6;refine RN 9 E I λa E=>?_;refine aS (λμ a w=>∃ k:Nat,(μ=i-k∧k≤i)∧Fr a 34 [(0,pt q),(11,.int .i64 ps.length),(12,.int .i64 k)]∧V W w (aa q 224 [.slice (some ⟨b,0,none⟩) ps.length ps.length]::aa b 227 (hQ ps)::L)) (i) (⟨0,⟨by simp,by simp⟩,E.ab [0,11,12],I.sub⟩) ?_;clear E I;rintro μ a w ⟨k,⟨rfl,hk⟩,E,I⟩;refine RN 3 E I λa E=>?_;rw[dd (by omega)]at E;refine RN 13 E I λa E=>?_;refine SS E (ag E (I.bu (rS (by omega)))) λa E=>?_;refine IF 1 E I (λay a E=>?_) λay a E=>?_
 ·
  obtain rfl : k = i := by
      rcases Nat.lt_or_ge k i with h | h
      ·have:=B4 k h;omega
      ·omega
  refine RN 8 E I λa E=>?_;refine qj E rfl I Ty.t227 (by simp[Value.oneCell']) (by rw[uZ];simp;omega) λa w E I=>?_;replace I:=I.jy b;change V W w (aa b 227 (cC (hQ ps) (k*9) oN.cells)::_) at I;rw[Sd oN hi]at I;refine RT 5 E I ?_;exact⟨rfl,(Room.close (n:=ps.length) I br (wP (g:=λ_=>0) (r:=1) hp (by omega)))⟩
 have G2 : k < i := by
     rcases Nat.lt_or_ge k i with h | h
     ·exact h
     ·obtain rfl:k=i:=by omega
      omega
 refine RN 2 E I λa E=>?_;exact⟨i-(k+1),by omega,k+1,⟨rfl,by omega⟩,E.ab [0,11,12],I.sub⟩
theorem Sm (I:V W w (Room q b ps::L))(hf:yT ps) :
   Calls prog 126 #[pt q] w λe w'=>e=.returned (.tuple #[.int .i64 0,.bool false])∧V W w' (Room q b ps::L):=by
 obtain⟨hp,I⟩:=Room.open I;refine EN func126 ntmps126 rfl rfl λa E=>?_;refine RN 7 E I λa E=>?_;replace E:=E.aN 6;refine RN 9 E I λa E=>?_;refine aS (λμ a w=>∃ k:Nat,(μ=ps.length-k∧k≤ps.length)∧Fr a 34 [(0,pt q),(11,.int .i64 ps.length),(12,.int .i64 k)]∧V W w (aa q 224 [.slice (some ⟨b,0,none⟩) ps.length ps.length]::aa b 227 (hQ ps)::L)) (ps.length) (⟨0,⟨by simp,by simp⟩,E.ab [0,11,12],I.sub⟩) ?_;clear E I;rintro μ a w ⟨k,⟨rfl,hk⟩,E,I⟩;refine IF 3 E I (λan a E=>?_) λan a E=>?_
 ·
  refine RN 12 E I λa E=>?_;have cc:=hf k (by omega);refine SS E (ag E (I.bu (rS (by omega)))) λa E=>?_;refine RN 1 E I λa E=>?_;rw[bq (by omega)]at E;refine RN 3 E I λa E=>?_;exact⟨ps.length-(k+1),by omega,k+1,⟨rfl,by omega⟩,E.ab [0,11,12],I.sub⟩
 refine RT 3 E I ?_;exact⟨rfl,(Room.close (n:=_) I rfl hp)⟩
theorem Sp (I:V W w (Room q b ps::L))(hi:i<ps.length)(hr:0<ps[i].refs)(hf:yT ps) :
   Calls prog 347 #[pt q,.int .i64 ((i:Int)+1)] w λe w'=>e=.returned (.tuple #[.int .i64 0,.bool false])∧V W w' (Room q b ps::L):=by
 refine EN func347 ntmps347 rfl rfl λa E=>?_;refine CL 6 E I (rT I hi hr) λa w E I=>?_;refine RN 5 E I λa E=>?_;replace E:=E.aN 13;refine CL 3 E I (Sm I hf) λa w E I=>?_;refine RN 8 E I λa E=>?_;replace E:=E.aN 19;refine RT 6 E I ?_;exact⟨rfl,I⟩
theorem Sq {k:Nat}(I:V W w (Room q b ps::L))(hi:i<ps.length)(hr:0<ps[i].refs)(hf:th ps k) :
   Calls prog 347 #[pt q,.int .i64 ((i:Int)+1)] w λe w'=>e=.returned (.tuple #[.int .i64 ((k:Int)+1),.bool true])∧V W w' (Room q b (ps.set k ⟨ps[i].g,1⟩)::L):=by
 have hk:=hf.1;have bN:k≠i:=by
  rintro rfl;obtain⟨_,h,_⟩:=hf;omega
 have eK:k<(ps.set k oN).length:=by rw[br];exact hk
 have aJ:i<(ps.set k oN).length:=by rw[br];exact hi
 have e1:(ps.set k oN)[k]=oN:=by rw[getElem_set_self]
 have e2:(ps.set k oN)[i]=ps[i]:=by rw[List.getElem_set_ne bN]
 refine EN func347 ntmps347 rfl rfl λa E=>?_;refine CL 6 E I (rT I hi hr) λa w E I=>?_;refine RN 5 E I λa E=>?_;replace E:=E.aN 13;refine CL 3 E I (HA I hf) λa w E I=>?_;refine RN 8 E I λa E=>?_;replace E:=E.eo 19;refine aY 1 (λw0 w'=>Rd w' b (i*9) (ints .i32 8 ps[i].g)) [2] [0,1,3,4,5,3006,1002,7,8,1009] E I λa w E I hH=>?_
 have U : Rd w b (i * 9) (ints .i32 8 ps[i].g) := by
     have:=V.Hy (b:=b) (e:=227) (Room.open I).2 aJ
     rwa [e2]at this
 refine RH 5 E I hH U λa E=>?_;refine QH E (λw hc=>bO E underlying225 rfl Ty.t225 (hc)) U λa E=>?_;refine RH 0 E I hH U λa E=>?_;refine CL 0 E I (rT I eK (by rw[e1];decide)) λa w E I=>?_
 replace U : (fun w' => Rd w' b (i * 9) (ints .i32 8 ps[i].g)) w := by
     have:=V.Hy (b:=b) (e:=227) (Room.open I).2 aJ
     rwa [e2]at this
 refine RH 2 E I hH U λa E=>?_;obtain⟨hp,I⟩:=Room.open I;refine qj E rfl I Ty.t225 td (by rw[uZ,di];omega) λa w E I=>?_;rw[Sf eK,set_set,e1,show oN.refs=1 from rfl]at I;refine RT 5 E I ?_;exact⟨rfl,(Room.close (n:=(ps.set k oN).length) I (by rw[br,br]) (by have:=wP (g:=ps[i].g) (r:=1) (i:=k) hp (by decide);rwa [set_set]at this))⟩
def jF (ps:List Pg):Nat:=ps.countP λp=>decide (0<p.refs)
theorem u0 (ps:List Pg):jF ps≤ps.length:=List.countP_le_length
theorem Sr {ps:List Pg}{k:Nat}(h:k<ps.length):jF (ps.take (k+1))=jF (ps.take k)+if 0<ps[k].refs then 1 else 0:=by
 rw[jF,iU h,List.countP_append,jF,List.countP_singleton];by_cases h:0<ps[k].refs <;> simp[h]
theorem HB (I:V W w (Room q b ps::L)) :
   Calls prog 84 #[pt q] w λe w'=>e=.returned (.int .i64 (jF ps))∧V W w' (Room q b ps::L):=by
 obtain⟨hp,I⟩:=Room.open I;refine EN func84 ntmps84 rfl rfl λa E=>?_;refine RN 6 E I λa E=>?_;replace E:=E.aN 7;refine RN 11 E I λa E=>?_;refine aS (λμ a w=>∃ k:Nat,(μ=ps.length-k∧k≤ps.length)∧Fr a 24 [(3,.int .i64 (jF (ps.take k))),(11,.slice (some ⟨b,0,none⟩) ps.length ps.length),(12,.int .i64 ps.length),(13,.int .i64 k)]∧V W w (aa q 224 [.slice (some ⟨b,0,none⟩) ps.length ps.length]::aa b 227 (hQ ps)::L)) (ps.length) (⟨0,⟨by simp,by simp⟩,E.ab [3,11,12,13],I.sub⟩) ?_;clear E I;rintro μ a w ⟨k,⟨rfl,hk⟩,E,I⟩;have qz:=u0 (ps.take k);rw[en]at qz;refine IF 3 E I (λan a E=>?_) λan a E=>?_
 ·
  have mE:k<ps.length:=by omega
  have yU:=Sr mE;refine RN 3 E I λa E=>?_;refine SS E (bO E underlying227 rfl Ty.t227 (I.Si mE)) λa E=>?_;refine AL 0 E I λb5 a w E I=>?_;refine RN 0 E I λa E=>?_;refine qj E rfl I Ty.t227 (Pg.one _) (by rw[Pg.len];exact bh _) λa w E I=>?_;rw[show cC _ 0 ps[k].cells=ps[k].cells from by simp[cC,Pg.len]]at I;refine RN 2 E I λa E=>?_;refine SS E (ag E (I.bu (show ps[k].cells[8]?=some (.int .i64 ps[k].refs) from by simp[Pg.cells,di]))) λa E=>?_;refine IF 1 E I (λay a E=>?_) λay a E=>?_
  ·
   rw[al (by omega)]at yU;refine RN 5 E I λa E=>?_;exact⟨ps.length-(k+1),by omega,k+1,⟨rfl,by omega⟩,by rw[yU];exact E.ab [3,11,12,13],I.sub⟩
  rw[ae (by omega)]at yU;refine RN 2 E I λa E=>?_;exact⟨ps.length-(k+1),by omega,k+1,⟨rfl,by omega⟩,by rw[yU];exact E.ab [3,11,12,13],I.sub⟩
 refine RT 3 E I ?_;obtain rfl:k=ps.length:=by omega
 rw[take_length];exact⟨rfl,(Room.close (n:=_) I rfl hp)⟩
theorem Ss (I:V W w (Room q b ps::L)) :
   Calls prog 166 #[pt q] w λe w'=>e=.returned (.int .i64 ((ps.length-jF ps:Nat):Int))∧V W w' (Room q b ps::L):=by
 have qz:=u0 ps;have hp:=(Room.open I).1;refine EN func166 ntmps166 rfl rfl λa E=>?_;refine RN 6 E I λa E=>?_;replace E:=E.aN 4;refine aY 2 (λw0 w'=>w'.cell? ⟨q,0,none⟩=some (.slice (some ⟨b,0,none⟩) ps.length ps.length)) [6] [0,1,2,5,3003,4,1006,7,8] E I λa w E I hH=>?_;have U:=hH.at w ((Room.open I).2.bu rfl);refine RH 4 E I hH U λa E=>?_;refine QH E (λw hc=>ag E (hc)) U λa E=>?_;refine RH 1 E I hH U λa E=>?_;refine CL 0 E I (HB I) λa w E I=>?_;replace U:=hH.at w ((Room.open I).2.bu rfl);refine RH 2 E I hH U λa E=>?_;refine RT 0 E I ?_;exact⟨by rw[show ((ps.length-jF ps:Nat):Int)=(ps.length:Int)-(jF ps:Int) from by omega],I⟩
end
end
section
def lq (es:Array MapEntry)(clock:Nat)(kvs:List (Int×Value)):Prop :=
 es.toList.map (λe=>(e.key,e.val))=kvs.map (λp=>(Value.int .i64 p.1,p.2))∧MapKept.Stamped es clock∧∀ p∈kvs,(Lit.int .i64 p.1).wf=true
def mp (b:Nat)(kvs:List (Int×Value)):SP:=λh=>∃ es clock,h b=some (.map es clock)∧lq es clock kvs
def mF:List (Int×Value)→Int→Nat→Option (Nat×Value)
 | [],_,_=>none
 | p::r,k,i=>if p.1=k then some (i,p.2) else mF r k (i+1)
theorem HC {kvs:List (Int×Value)}{k:Int}(h:∀ p∈kvs,p.1≠k):∀ i,mF kvs k i=none:=by
 induction kvs with
 | nil=>intro i;rfl
 | cons p r ih =>
  intro i;rw[mF,ae (h p mem_cons_self)];exact ih (λq hq=>h q (gP _ hq)) _
theorem St {kvs:List (Int×Value)}{k:Int}{v:Value}:∀ {j:Nat} (i:Nat),kvs[j]?=some (k,v)→(∀ j',j'<j→∀ p,kvs[j']?=some p→p.1≠k)→mF kvs k i=some (i+j,v):=by
 induction kvs with
 | nil=>intro j i h;simp at h
 | cons p r ih =>
  intro j i h hl;cases j with
  | zero=>simp at h;subst h;simp[mF]
  | succ j =>
   rw[mF,ae (hl 0 (by omega) p rfl),ih (i+1) (by simpa using h) (λj' hj q hq=>hl (j'+1) (by omega) q (by simpa using hq))];rw[show i+1+j=i+(j+1) from by omega]
theorem HD (k:Int):∀ (es:List MapEntry) (kvs:List (Int×Value)) (i:Nat),es.map (λe=>(e.key,e.val))=kvs.map (λp=>(Value.int .i64 p.1,p.2))→Instr.findNow (.int .i64) (.int .i64 k) es i=some (mF kvs k i)
 | [],[],i,_=>rfl
 | [],_::_,_,h=>by simp at h
 | _::_,[],_,h=>by simp at h
 | e::es,p::kvs,i,h=>by
  simp only[map_cons,List.cons.injEq,Prod.mk.injEq]at h;obtain⟨⟨h1,h2⟩,h3⟩:=h;simp only[Instr.findNow,h1,Instr.sameNow,mF];by_cases hk:p.1=k
  ·simp[hk,h2]
  ·have:(k==p.1)=false:=by simp;exact λe=>hk e.symm
   simp only[this,ae hk];exact HD k es kvs (i+1) h3
theorem wQ {α β:Type}(f:α→β)(l:List α)(i:Nat):(l.eraseIdx i).map f=(l.map f).eraseIdx i:=by
 simp only[eraseIdx_eq_take_drop_succ,cU,map_take,map_drop]
section
variable {W w:World}{L:List SP}{b:Nat}{kvs:List (Int×Value)}
theorem V.yV (I:V W w (mp b kvs::L)):∃ es clock,lq es clock kvs∧V W w (km b (.map es clock)::L):=by
 obtain⟨⟨es,clock⟩,h1,h2⟩:=I.jj (ι:=Array MapEntry×Nat) (p:=λi=>lq i.1 i.2 kvs) (B:=λi=>km b (.map i.1 i.2)) (λh ⟨es,clock,h1,h2⟩=>⟨(es,clock),h2,h1⟩);exact⟨es,clock,h1,h2⟩
theorem V.B5 {es:Array MapEntry}{clock:Nat}(I:V W w (km b (.map es clock)::L))(h:lq es clock kvs):V W w (mp b kvs::L) :=
 V.shut (M:=[_]) I (λ_ x=>by
  obtain⟨_,_,_,a,_,y,_⟩:=x;exact⟨es,clock,a _ _ y,h⟩)
theorem lq.nil:lq #[] 0 []:=⟨rfl,⟨by simp,by simp,by simp⟩,by simp⟩
theorem lq.push {es:Array MapEntry}{clock:Nat}{k:Int}{v:Value}(h:lq es clock kvs)(hw:(Lit.int .i64 k).wf=true)(hn:∀ p∈kvs,p.1≠k):lq (es.push ⟨.int .i64 k,v,clock⟩) (clock+1) (kvs++[(k,v)]):=by
 obtain⟨h1,⟨h2,h3,h4⟩,h5⟩:=h;refine⟨by simp[h1],⟨λx hx=>?_,?_,?_⟩,λp hp=>?_⟩
 ·simp only[Array.toList_push,eV,mem_singleton]at hx;rcases hx with hx | rfl
  ·have:=h2 x hx;omega
  ·exact Nat.lt_succ_self _
 ·simp only[Array.toList_push,cU,map_cons,map_nil];refine List.nodup_append.2 ⟨h3,by simp,λx hx y hy=>?_⟩;simp only[c8]at hx;obtain⟨e,he,rfl⟩:=hx;have:=h2 e he;simp at hy;omega
 ·simp only[Array.toList_push,cU,map_cons,map_nil];refine List.nodup_append.2 ⟨h4,by simp,λx hx y hy=>?_⟩;simp only[c8]at hx;obtain⟨e,he,rfl⟩:=hx;have hm:(e.key,e.val)∈es.toList.map (λe=>(e.key,e.val)):=c8.2 ⟨e,he,rfl⟩;rw[h1]at hm;obtain⟨p,hp,oO⟩:=c8.1 hm;simp only[Prod.mk.injEq]at oO;simp at hy;rw[hy,← oO.1];intro e2;simp at e2;exact hn p hp e2
 ·rcases eV.1 hp with h | h
  ·exact h5 p h
  ·simp at h;subst h;exact hw
theorem lq.erase {es:Array MapEntry}{clock:Nat}(h:lq es clock kvs)(i:Nat):lq (es.eraseIdxIfInBounds i) clock (kvs.eraseIdx i):=by
 obtain⟨h1,⟨h2,h3,h4⟩,h5⟩:=h;have ht:(es.eraseIdxIfInBounds i).toList=es.toList.eraseIdx i:=by simp[Array.toList_eraseIdxIfInBounds]
 have hm:∀ {β:Type} (f:MapEntry→β),(es.toList.eraseIdx i).map f=(es.toList.map f).eraseIdx i:=λf=>wQ f _ i;refine⟨by rw[ht,hm,h1,wQ],⟨λx hx=>h2 x (List.mem_of_mem_eraseIdx (ht ▸ hx)),?_,?_⟩,λp hp=>h5 p (List.mem_of_mem_eraseIdx hp)⟩
 ·rw[ht,hm];exact h3.sublist (List.eraseIdx_sublist _ _)
 ·rw[ht,hm];exact h4.sublist (List.eraseIdx_sublist _ _)
end
section
variable {P:Program}{ops:Array Oper}{Q:Exit→Act→World→Prop}{a:Act}{w w' W:World}{K:Act→World→Prop}{n d:Nat}{l:List (Nat×Value)}{v:Value}{L R:List SP}{kvs:List (Int×Value)}
class rU (L:List SP)(b:Nat)(kvs:outParam (List (Int×Value)))(R:outParam (List SP)):Prop where perm:L.Perm (mp b kvs::R)
instance rU.head {L b kvs}:rU (mp b kvs::L) b kvs L:=⟨List.Perm.refl _⟩
instance (priority:=low) rU.tail {A L b kvs R}[h:rU L b kvs R]:rU (A::L) b kvs (A::R):=⟨(List.Perm.cons A h.perm).trans (List.Perm.swap _ _ _)⟩
theorem HE {b:Nat}{es HF:Array MapEntry}{c c':Nat}(h:w.heap[b]?=some (.map es c)):(setObj b (.map HF c')).run P w=.ok () (ChangeMaps.setBlock w b (.map HF c')):=by
 simp only[setObj,Sem.run,h];rfl
theorem Su {kt:TypeId}{em:Bool}{k:Int}(hk:P.underlying kt=some (.int .i64))(n:Nat):(Instr.checkKey em (n+1) kt (.int .i64 k)).run P w=.ok () w:=by
 simp only[Instr.checkKey,Sem.run_bind,eM hk,Result.andThen_ok];rfl
theorem B6 {kt:TypeId}{em:Bool}{k:Int}(hk:P.underlying kt=some (.int .i64)):(Instr.checkKey em 10000 kt (.int .i64 k)).run P w=.ok () w :=
 Su hk 9999
theorem B7 {es:Array MapEntry}{clock:Nat}{kt:TypeId}{k:Int}(hk:P.underlying kt=some (.int .i64))(h:lq es clock kvs):(Instr.findKey kt (.int .i64 k) es.toList).run P w=.ok (mF kvs k 0) w:=by
 simp[Instr.findKey,eM hk,HD k es.toList kvs 0 h.1]
theorem Sv {t ty ps af g}(E:Fr a n l)(hw:Region.wanted ⟨some d,.makeMap t none,ty,ps,af,g⟩ (yielded ops a.tmps)=true)(I:V W w L)(hf:okB d n l=true)
   (h:∀ b a' w',Fr a' n ((d,.map (some b))::l)→V W w' (mp b []::L)→Old w w'→K a' w'):cI P ops Q ⟨some d,.makeMap t none,ty,ps,af,g⟩ K a w:=by
 refine bz (v:=.map (some w.heap.size)) (w':=w.alloc (.map #[] 0)) E hw ?_ hf (λa' dg=>h _ _ _ dg (V.B5 (I.alloc (.map #[] 0)) lq.nil) (Old.alloc _ _));simp[execOp,Instr.makeMap,newObj,Sem.run]
theorem HG {x y b t kt rV k z sz aX dst ty ps af g}{R:List SP}(E:Fr a n l)(ht:P.underlying t=some (.map kt rV))(hk:P.underlying kt=some (.int .i64))(hi:TI P rV z sz aX)(I:V W w L)
   [ev:Ev l x (.map (some b))] [gS:Ev l y (.int .i64 k)] [pk:rU L b kvs R] (hv:((mF kvs k 0).map (·.2)).getD z=v) :
   (execOp a.eval ⟨dst,.lookup t x y false,ty,ps,af,g⟩).run P w=.ok (.value v) w:=by
 obtain⟨es,clock,h1,h2⟩:=(I.perm pk.perm).yV;have hg:=MapKept.run_getObj_map (P:=P) h2.has.2;have h3:(Instr.lookup t (.map (some b)) (.int .i64 k) false).run P w=.ok v w:=by
  simp only[Instr.lookup,Sem.run_bind,eM ht,Result.andThen_ok,hg];simp only[Sem.run_pure,Result.andThen_ok,B6 hk,B7 hk h1];cases hf:mF kvs k 0 with
  | none=>rw[hf]at hv;simp at hv;simp[s5 hi,hv]
  | some p=>rw[hf]at hv;simp at hv;simp[hv]
 simp[execOp,ev.ev a n E,gS.ev a n E,h3]
theorem Sw {x y u b t kt rV k ty ps af g}{R:List SP}(E:Fr a n l)(hw:Region.wanted ⟨none,.mapUpdate t x y u,ty,ps,af,g⟩ (yielded ops a.tmps)=true)(I:V W w L)
   (ht:P.underlying t=some (.map kt rV)) (hk:P.underlying kt=some (.int .i64)) [ev:Ev l x (.map (some b))] [gS:Ev l y (.int .i64 k)] [s7:Ev l u v] [pk:rU L b kvs R]
   (yW:(Lit.int .i64 k).wf=true) (hn:∀ p∈kvs,p.1≠k)
   (h:∀ a' w',Fr a' n l→V W w' (mp b (kvs++[(k,v)])::R)→K a' w'):cI P ops Q ⟨none,.mapUpdate t x y u,ty,ps,af,g⟩ K a w:=by
 obtain⟨es,clock,h1,h2⟩:=(I.perm pk.perm).yV;have hg:=MapKept.run_getObj_map (P:=P) h2.has.2;have hb:b<w.heap.size:=(Array.getElem?_eq_some_iff.1 h2.has.2).1;have h3:(Instr.mapUpdate t (.map (some b)) (.int .i64 k) v).run P w=.ok () (ChangeMaps.setBlock w b (.map (es.push ⟨.int .i64 k,v,clock⟩) (clock+1))):=by
  simp only[Instr.mapUpdate,Sem.run_bind,eM ht,Result.andThen_ok,hg];simp only[Sem.run_pure,Result.andThen_ok,B6 hk,B7 hk h1,HC hn];simp[HE h2.has.2]
 have h4:=h2.ca (o':=.map (es.push ⟨.int .i64 k,v,clock⟩) (clock+1)) (w':=ChangeMaps.setBlock w b (.map (es.push ⟨.int .i64 k,v,clock⟩) (clock+1))) rfl rfl rfl rfl;refine Bs (w':=ChangeMaps.setBlock w b (.map (es.push ⟨.int .i64 k,v,clock⟩) (clock+1))) E hw ?_ (λa' dg=>h a' _ dg (h4.B5 (h1.push yW hn)));simp[execOp,ev.ev a n E,gS.ev a n E,s7.ev a n E,h3]
theorem Sy {x y b t kt rV k i ty ps af g}{R:List SP}(E:Fr a n l)(hw:Region.wanted ⟨none,.call ⟨.builtin .delete,#[x,y],#[t,kt]⟩,ty,ps,af,g⟩ (yielded ops a.tmps)=true)(I:V W w L)
   (ht:P.underlying t=some (.map kt rV)) (hk:P.underlying kt=some (.int .i64)) [ev:Ev l x (.map (some b))] [gS:Ev l y (.int .i64 k)] [pk:rU L b kvs R] (hi:mF kvs k 0=some (i,v))
   (h:∀ a' w',Fr a' n l→V W w' (mp b (kvs.eraseIdx i)::R)→K a' w'):cI P ops Q ⟨none,.call ⟨.builtin .delete,#[x,y],#[t,kt]⟩,ty,ps,af,g⟩ K a w:=by
 obtain⟨es,clock,h1,h2⟩:=(I.perm pk.perm).yV;have hg:=MapKept.run_getObj_map (P:=P) h2.has.2;have hb:b<w.heap.size:=(Array.getElem?_eq_some_iff.1 h2.has.2).1;have h3:(Builtin.delete_ #[t,kt] ty #[.map (some b),.int .i64 k]).run P w=.ok (.tuple #[]) (ChangeMaps.setBlock w b (.map (es.eraseIdxIfInBounds i) clock)):=by
  simp only[Builtin.delete_,getElem?_toArray,List.getElem?_cons_zero,getElem?_cons_succ];simp only[Sem.run_bind,eM ht,Result.andThen_ok,hg];simp only[Sem.run_pure,Result.andThen_ok,B6 hk,B7 hk h1,hi];simp[HE h2.has.2]
 have h4:=h2.ca (o':=.map (es.eraseIdxIfInBounds i) clock) (w':=ChangeMaps.setBlock w b (.map (es.eraseIdxIfInBounds i) clock)) rfl rfl rfl rfl;refine Bq (v:=.tuple #[]) (w':=ChangeMaps.setBlock w b (.map (es.eraseIdxIfInBounds i) clock)) E hw ?_ (λa' dg=>h a' _ dg (h4.B5 (h1.erase i)));simp[execOp,resolve,ev.ev a n E,gS.ev a n E,invoke,builtin,h3]
end
end
section
open Go.RowKit Go.Maps Go.Sort Go.Shelf
def Lay.HH:Go.Shelf.Ren:=⟨fun | 7=>119 | 10=>164 | n=>n,fun | 23=>218 | 26=>166 | 3=>219 | 28=>216 | 0=>0 | 27=>215 | 33=>284 | 4=>4 | n=>n,fun | n=>n⟩
theorem Lay.HI:Go.Proofs.SlLaysZI.n7 prog Lay.HH:={
 mixed:=by kernel_rfl
 f7:=⟨f119.name,by decide,func119.trans (congrArg some (by kernel_rfl))⟩
 f10:=⟨f164.name,by decide,func164.trans (congrArg some (by kernel_rfl))⟩
 t0:=underlying0
 a0:=isAgg0
 z0:=sizeOf0
 v0:=zeroValue0
 t4:=underlying4
 a4:=isAgg4
 z4:=sizeOf4
 v4:=zeroValue4
 t23:=underlying218
 a23:=isAgg218
 z23:=sizeOf218
 v23:=zeroValue218
 t26:=underlying166
 a26:=isAgg166
 z26:=sizeOf166
 v26:=zeroValue166
 t27:=underlying215
 a27:=isAgg215
 z27:=sizeOf215
 v27:=zeroValue215
 t28:=underlying216
 a28:=isAgg216
 z28:=sizeOf216
 v28:=zeroValue216
 t33:=underlying284
 a33:=isAgg284
 z33:=sizeOf284
 v33:=zeroValue284 }
def Lay.HJ:Go.Shelf.Ren:=⟨fun | 6=>118 | 8=>162 | 9=>163 | 11=>194 | 13=>196 | 12=>195 | 23=>226 | 24=>227 | 14=>217 | 15=>218 | 16=>219 | 17=>220 | 18=>221 | 19=>222 | 20=>223 | 21=>224 | 22=>225 | 25=>233 | 26=>234 | 27=>235 | 28=>236 | 29=>237 | 30=>238 | 31=>243 | n=>n,fun | 26=>166 | 28=>216 | 24=>160 | 0=>0 | 3=>3 | 37=>314 | 48=>100 | 50=>319 | 4=>4 | 40=>352 | 39=>351 | 45=>248 | 5=>5 | 9=>9 | 51=>366 | 55=>370 | 57=>375 | 58=>376 | 33=>284 | n=>n,fun | n=>n⟩
theorem Lay.Sz:Go.Proofs.SlLaysZI.n6 prog Lay.HJ:={
 mixed:=by kernel_rfl
 f6:=⟨f118.name,by decide,func118.trans (congrArg some (by kernel_rfl))⟩
 f8:=⟨f162.name,by decide,func162.trans (congrArg some (by kernel_rfl))⟩
 f11:=⟨f194.name,by decide,func194.trans (congrArg some (by kernel_rfl))⟩
 t0:=underlying0
 a0:=isAgg0
 z0:=sizeOf0
 v0:=zeroValue0
 t24:=underlying160
 a24:=isAgg160
 z24:=sizeOf160
 v24:=zeroValue160
 t26:=underlying166
 a26:=isAgg166
 z26:=sizeOf166
 v26:=zeroValue166
 t28:=underlying216
 a28:=isAgg216
 z28:=sizeOf216
 v28:=zeroValue216
 i26:=by kernel_rfl }
def Lay.SB:Go.Shelf.Ren:=⟨fun | 5=>163 | 8=>196 | 7=>195 | 19=>226 | 20=>227 | 10=>217 | 11=>218 | 12=>219 | 13=>220 | 14=>221 | 15=>222 | 16=>223 | 17=>224 | 18=>225 | 30=>233 | 31=>234 | 32=>235 | 33=>236 | 34=>237 | 35=>238 | 40=>243 | n=>n,fun | 23=>160 | 25=>166 | 3=>3 | 32=>314 | 22=>160 | 0=>0 | 44=>100 | 46=>319 | 4=>4 | 36=>352 | 35=>351 | 41=>248 | 5=>5 | 9=>9 | 53=>366 | 57=>370 | 63=>375 | 64=>376 | n=>n,fun | n=>n⟩
theorem Lay.HK:Go.Proofs.SlLaysM.n5 prog Lay.SB:={
 mixed:=by kernel_rfl
 f5:=⟨f163.name,by decide,func163.trans (congrArg some (by kernel_rfl))⟩
 f7:=⟨f195.name,by decide,func195.trans (congrArg some (by kernel_rfl))⟩
 f8:=func196.trans (congrArg some (by kernel_rfl))
 f10:=⟨f217.name,by decide,func217.trans (congrArg some (by kernel_rfl))⟩
 f11:=⟨f218.name,by decide,func218.trans (congrArg some (by kernel_rfl))⟩
 f12:=⟨f219.name,by decide,func219.trans (congrArg some (by kernel_rfl))⟩
 f13:=⟨f220.name,by decide,func220.trans (congrArg some (by kernel_rfl))⟩
 f14:=⟨f221.name,by decide,func221.trans (congrArg some (by kernel_rfl))⟩
 f15:=⟨f222.name,by decide,func222.trans (congrArg some (by kernel_rfl))⟩
 f16:=⟨f223.name,by decide,func223.trans (congrArg some (by kernel_rfl))⟩
 f17:=⟨f224.name,by decide,func224.trans (congrArg some (by kernel_rfl))⟩
 f18:=⟨f225.name,by decide,func225.trans (congrArg some (by kernel_rfl))⟩
 f19:=func226.trans (congrArg some (by kernel_rfl))
 f20:=func227.trans (congrArg some (by kernel_rfl))
 f30:=⟨f233.name,by decide,func233.trans (congrArg some (by kernel_rfl))⟩
 f31:=func234.trans (congrArg some (by kernel_rfl))
 f32:=func235.trans (congrArg some (by kernel_rfl))
 f33:=⟨f236.name,by decide,func236.trans (congrArg some (by kernel_rfl))⟩
 f34:=⟨f237.name,by decide,func237.trans (congrArg some (by kernel_rfl))⟩
 f35:=⟨f238.name,by decide,func238.trans (congrArg some (by kernel_rfl))⟩
 f40:=⟨f243.name,by decide,func243.trans (congrArg some (by kernel_rfl))⟩
 t0:=underlying0
 a0:=isAgg0
 z0:=sizeOf0
 v0:=zeroValue0
 t3:=underlying3
 a3:=isAgg3
 z3:=sizeOf3
 v3:=zeroValue3
 t4:=underlying4
 a4:=isAgg4
 z4:=sizeOf4
 v4:=zeroValue4
 t5:=underlying5
 a5:=isAgg5
 z5:=sizeOf5
 v5:=zeroValue5
 t9:=underlying9
 a9:=isAgg9
 z9:=sizeOf9
 v9:=zeroValue9
 t22:=underlying160
 a22:=isAgg160
 z22:=sizeOf160
 v22:=zeroValue160
 t23:=underlying160
 a23:=isAgg160
 z23:=sizeOf160
 v23:=zeroValue160
 t25:=underlying166
 a25:=isAgg166
 z25:=sizeOf166
 v25:=zeroValue166
 t32:=underlying314
 a32:=isAgg314
 z32:=sizeOf314
 v32:=zeroValue314
 t35:=underlying351
 a35:=isAgg351
 z35:=sizeOf351
 v35:=zeroValue351
 t36:=underlying352
 a36:=isAgg352
 z36:=sizeOf352
 v36:=zeroValue352
 t41:=underlying248
 a41:=isAgg248
 z41:=sizeOf248
 v41:=zeroValue248
 t44:=underlying100
 a44:=isAgg100
 z44:=sizeOf100
 v44:=zeroValue100
 t46:=underlying319
 a46:=isAgg319
 z46:=sizeOf319
 v46:=zeroValue319
 t53:=underlying366
 a53:=isAgg366
 z53:=sizeOf366
 v53:=zeroValue366
 t57:=underlying370
 a57:=isAgg370
 z57:=sizeOf370
 v57:=zeroValue370
 t63:=underlying375
 a63:=isAgg375
 z63:=sizeOf375
 v63:=zeroValue375
 t64:=underlying376
 a64:=isAgg376
 z64:=sizeOf376
 v64:=zeroValue376 }
theorem Lay.SC (m:Nat):AnyZI.SortsIn prog Lay.HJ Fence.wide m :=
 ⟨λaa off cap ss W hH SD aE=>callsIn_wide.2 (AnyM.slices_Sort_int Lay.HK aa off cap ss W hH SD aE),
  λp cap W=>callsIn_wide.2 (AnyM.slices_Sort_int_none Lay.HK p cap W)⟩
def nc:Value→Option (DataW Unit×List MemPlace):=λ_=>some (.lit (.bool true),[])
theorem SE {es:Array MapEntry}{clock:Nat}{kvs:List (Int×Value)}(h:lq es clock kvs)(hl:kvs.length≤maxLen):WideElems.Fit prog 166 nc es clock:=by
 obtain⟨h1,h2,h3⟩:=h;have hlen:es.size=kvs.length:=by have:=congrArg List.length h1;simpa using this
 refine⟨by omega,h2,λx hx=>?_⟩;have hm:(x.key,x.val)∈es.toList.map (λe=>(e.key,e.val)):=c8.2 ⟨x,hx,rfl⟩;rw[h1]at hm;obtain⟨p,hp,oO⟩:=c8.1 hm;simp only[Prod.mk.injEq]at oO;refine⟨(.int .i64 p.1,.lit (.bool true)),?_⟩;simp[WideElems.rd,← oO.1,keyOf_int_mk underlying166 (h3 p hp),nc]
theorem mapKeys {es:Array MapEntry}{clock:Nat}{kvs:List (Int×Value)}(h:lq es clock kvs):(intKeys (DataW.map ((es.toList.map (WideElems.rg prog 166 nc)).foldr DataW.insert []))).Perm (kvs.map (·.1)):=by
 have hp:=WideShapes.sorted_perm (es.toList.map (WideElems.rg prog 166 nc));have h4:(es.toList.map (WideElems.rg prog 166 nc)).map (λp=>Go.intOf p.1)=kvs.map (·.1):=by
  obtain⟨h1,_,h3⟩:=h
  have : ∀ (l : List MapEntry) (m : List (Int × Value)), l.map (fun e => (e.key, e.val)) = m.map (fun p => (Value.int .i64 p.1, p.2)) → (∀ p ∈ m, (Lit.int .i64 p.1).wf = true) →
      (l.map (WideElems.rg prog 166 nc)).map (λp=>Go.intOf p.1)=m.map (·.1):=by
   intro l
   induction l with
   | nil=>intro m h _;cases m with
    | nil=>rfl
    | cons=>simp at h
   | cons e l ih =>
    intro m h hw;cases m with
    | nil=>simp at h
    | cons p m =>
     simp only[map_cons,List.cons.injEq,Prod.mk.injEq]at h;simp only[map_cons,ih m h.2 (λq hq=>hw q (gP _ hq))];have hr:WideElems.rg prog 166 nc e=(Lit.int .i64 p.1,(DataW.lit (.bool true):DataW Unit)):=by
      simp only[WideElems.rg,WideElems.rd,h.1.1,keyOf_int_mk underlying166 (hw p mem_cons_self),nc,Option.bind_some,Option.map_some,Option.getD_some]
     rw[hr];rfl
  exact this _ _ h1 h3
 have:=hp.map (λp:Lit×DataW Unit=>Go.intOf p.1);rw[h4]at this;exact this
section
variable {W w:World}{L:List SP}{m:Nat}{kvs:List (Int×Value)}
theorem SF (I:V W w L):Calls prog 119 #[.map (some m)] w λe w' =>
   ∃ b,e=.returned (.func (.func 164) #[] #[pt b])∧V W w' (aa b 218 [.map (some m)]::L):=by
 have h:=AnyZI.keys_in Lay.HI Fence.wide 5 trivial rfl (some m) w;refine (callsIn_wide.1 h).mono λe w' ⟨h1,h2⟩=>?_;subst h2;exact⟨_,h1,I.alloc _⟩
theorem SG {ss ks:List Int}(hp:ss.Perm ks)(hk:ks.Pairwise (· < ·)):ss.mergeSort (λx y=>decide (x≤y))=ks:=by
 have h1:=List.pairwise_mergeSort (le:=λx y:Int=>decide (x≤y)) (λa b c h1 h2=>by simp at *;omega) (λa b=>by simp;omega) ss;refine List.Perm.eq_of_pairwise (le:=λx y:Int=>decide (x≤y)=true) (λa b _ _ h1 h2=>by simp at *;omega) h1 (hk.imp λh=>by simp;omega) ((List.mergeSort_perm _ _).trans hp)
theorem V.ownsRow {w':World}{e sz:Nat}{v:Value}{n:Nat}{xs:List Value}(I:V W w L)(hb:Below w.heap.size w w')(hr:w'.ownsRow w.heap.size e sz v n xs) :
   ∃ ad c,v=.slice ad n c∧V W w' (Sl e sz ad n c xs::L):=by
 obtain⟨yX,h,p,q⟩:=I;have hB:Below W.heap.size W w':=yX.trans ⟨hb.os,hb.tape,hb.output,hb.size,λk hk=>hb.block k (yB hk yX.size)⟩;have HL:∀ n o,h n=some o→W.heap.size≤n∧w'.heap[n]?=some o:=λn o ho=>by
  obtain⟨h1,h2⟩:=p n o ho;refine⟨h1,?_⟩;rw[hb.block n (Array.getElem?_eq_some_iff.1 h2).1];exact h2
 have gR:V W w' L:=⟨hB,h,HL,q⟩;obtain⟨hl,hr⟩:=hr;rcases hr with ⟨rfl,hn⟩ | ⟨g,cap,cur,rfl,hg,hc,B8,_,aE,ht⟩
 ·subst hn;refine⟨none,0,rfl,?_⟩;obtain rfl:xs=[]:=g6 (by rw[hl,Nat.zero_mul]);exact gR.bH _ _ _
 ·have yY : h g = none := by
   cases he:h g with
   | none=>rfl
   | some x =>
    have:=(Array.getElem?_eq_some_iff.1 (p g x he).2).1;omega
  refine⟨some ⟨g,0,none⟩,cap,rfl,?_⟩;have h2:V W w' (aa g e ([]++xs++cur.toList.drop (n*sz))::L):=by
   refine⟨hB,λk=>if k=g then some (.cells cur e (0,0)) else h k,λk o ho=>?_,λk=>if k=g then some (.cells cur e (0,0)) else none,h,λk=>?_,λk o ho=>?_,λk o ho=>?_,?_,q⟩
   ·by_cases hk:k=g
    ·simp[hk]at ho;subst ho;subst hk;exact⟨gO yX.size hg,hc⟩
    ·simp[hk]at ho;exact HL k o ho
   ·by_cases hk:k=g
    ·right;rw[hk];exact yY
    ·left;simp[hk]
   ·by_cases hk:k=g <;> simp[hk]at ho ⊢;exact ho
   ·by_cases hk:k=g
    ·rw[hk,yY]at ho;cases ho
    ·simp[hk,ho]
   ·have : ([] ++ xs ++ cur.toList.drop (n * sz)).toArray = cur := by
     rw[← ht];simp
    simp only[aa,km,this,if_true]
  have hlen:xs.length+(cur.toList.drop (n*sz)).length=cap*sz:=by
   have:(cur.toList).length=cap*sz:=by simpa using aE
   rw[c7,this,hl];have:=Nat.mul_le_mul_right sz B8;omega
  have h3:=V.iF (pre:=[]) (cs:=xs) (n:=n) (c:=cap) (sz:=sz) h2 hl B8 (by rw[Nat.sub_mul];omega);simpa using h3
theorem SH {b:Nat}(I:V W w (aa b 218 [.map (some m)]::mp m kvs::L))(hk:(kvs.map (·.1)).Pairwise (· < ·))(hl:kvs.length≤1099511627776) :
   Calls prog 118 #[.func (.func 164) #[] #[pt b]] w λe w' =>
   ∃ ad c,e=.returned (.slice ad kvs.length c)∧V W w' (Sl 166 1 ad kvs.length c (kvs.map λp=>.int .i64 p.1)::mp m kvs::L):=by
 have dy:=I.tail;obtain⟨es,clock,hm,ti⟩:=dy.yV;have SI:(1099511627776:Nat)≤maxLen:=by unfold maxLen;omega
 have aE:es.size=kvs.length:=by have:=congrArg List.length hm.1;simpa using this
 have hF:=SE hm (gO hl SI);have yZ:w.ownsMap prog 166 nc m es.size (.map ((es.toList.map (WideElems.rg prog 166 nc)).foldr DataW.insert [])):=⟨es,clock,ti.has.2,hF,bh _,rfl⟩;have hD:Maps.size (DataW.map ((es.toList.map (WideElems.rg prog 166 nc)).foldr DataW.insert []))≤kvs.length:=by rw[← aE];exact yZ.size_le
 have lT:w.cell? ⟨b,0,none⟩=some (.map (some m)):=I.cell 0;have hb:b<w.heap.size:=World.block_lt_of_cell? _ _ lT;have SJ:SeqGives Fence.wide 2 prog 164 #[pt b] encZ (λss=>ss.Perm (intKeys (DataW.map ((es.toList.map (WideElems.rg prog 166 nc)).foldr DataW.insert [])))) (Maps.size (DataW.map ((es.toList.map (WideElems.rg prog 166 nc)).foldr DataW.insert []))) w :=
  AnyZI.keys_gives (ρ:=Lay.HH) { Lay.HI with } Fence.wide _ trivial rfl (by omega) b m _ _ w hb lT yZ
 have u1:=AnyZI.sorted_in Lay.Sz Fence.wide 5 trivial trivial trivial trivial rfl (by omega) (Lay.SC _) (enters_of func163 (by kernel_rfl) rfl)
  164 #[pt b] trivial
  (enters_of func164 (by kernel_rfl) rfl) _ _ (by omega) (by omega) _ SJ
 refine (callsIn_wide.1 u1).mono λe w' ⟨v,ss,h1,h2,h3,_,h5⟩=>?_;subst h1;have hp:=h2.trans (mapKeys hm);rw[SG hp hk]at h3;have hlen:ss.length=kvs.length:=by have:=hp.length_eq;simpa using this
 rw[hlen]at h3;obtain⟨ad,c,rfl,h6⟩:=dy.ownsRow h5 h3;refine⟨ad,c,rfl,?_⟩;have h7:(kvs.map (·.1)).map encZ=kvs.map λp=>Value.int .i64 p.1:=by simp[encZ,Function.comp_def]
 rw[h7]at h6;exact h6
end
end
section
structure aC where
 id:Nat
 refs:Nat
 g:Nat→Int
 p:Nat→Nat
structure Sn where
 last:Nat
 room:Nat
 n:Nat
 ar:List aC
def aC.cells (x:aC):List Value:=ints .i64 4 (λk=>(x.p k:Int)+1)++[.int .i64 x.refs]
theorem aC.len (x:aC):x.cells.length=5:=by simp[aC.cells,di]
instance {x:aC}:lO x.cells 5:=⟨x.len⟩
theorem aC.at {x:aC}{k:Nat}(h:k<4):x.cells[k]?=some (.int .i64 ((x.p k:Int)+1)):=by
 rw[aC.cells,lM (by rw[di];exact h),fO _ h]
theorem aC.ref {x:aC}:x.cells[4]?=some (.int .i64 x.refs):=by simp[aC.cells,di]
theorem aC.B9 {x:aC}{r:Nat}:x.cells.set 4 (.int .i64 r)=aC.cells { x with refs:=r }:=by
 rw[aC.cells,set_append_right _ _ (by rw[di];exact bh _),di];rfl
theorem aC.SL {x:aC}{k f:Nat}(h:k<4)(g:Nat→Int):x.cells.set k (.int .i64 ((f:Int)+1))=aC.cells { x with p:=λj=>if j=k then f else x.p j,g:=g }:=by
 rw[aC.cells,set_append_left _ _ (by rw[di];exact h),ints_set,aC.cells]
 congr 1
 refine wJ λj _=>?_;by_cases hj:j=k <;> simp[hj]
def iI (x:aC)(p m:Nat):Nat:=(List.range m).countP λk=>decide (x.p k=p)
def g7 (x:aC)(p:Nat):Nat:=iI x p 4
def cQ (l:List aC)(p:Nat):Nat:=(l.map λx=>g7 x p).sum
def Sn.used (A:Sn):Nat:=(List.range A.room).countP λp=>decide (0<cQ A.ar p)
theorem y1 (x:aC)(p:Nat):iI x p 0=0:=rfl
theorem kv (x:aC)(p m:Nat):iI x p (m+1)=iI x p m+if x.p m=p then 1 else 0:=by
 rw[iI,range_succ,List.countP_append,List.countP_singleton,iI];by_cases h:x.p m=p <;> simp[h]
theorem tj (x:aC)(p:Nat):g7 x p=(if x.p 0=p then 1 else 0)+(if x.p 1=p then 1 else 0)+(if x.p 2=p then 1 else 0)+(if x.p 3=p then 1 else 0):=by
 rw[g7,kv,kv,kv,kv,y1,Nat.zero_add]
theorem rW (x:aC)(p:Nat){m n:Nat}(h:m≤n):iI x p m≤iI x p n:=by
 induction n with
 | zero => obtain rfl : m = 0 := by omega
           exact bh _
 | succ n ih =>
  rcases Nat.lt_or_ge n m with h1 | h1
  ·obtain rfl:m=n+1:=by omega
   exact bh _
  ·have:=ih h1;rw[kv];omega
theorem HM (x:aC)(p:Nat):g7 x p≤4:=by have:=List.countP_le_length (p:=λk=>decide (x.p k=p)) (l:=List.range 4);simpa [g7,iI] using this
theorem rX {x:aC}{k:Nat}(h:k<4):0<g7 x (x.p k):=by
 have h1:=rW x (x.p k) (m:=k+1) (n:=4) (by omega);rw[kv,al rfl]at h1;show 0<iI x (x.p k) 4;omega
theorem SM {x:aC}{k k':Nat}(h:k<4)(h':k'<4)(hn:k≠k')(he:x.p k=x.p k'):2≤g7 x (x.p k):=by
 rcases Nat.lt_or_gt_of_ne hn with hl | hl
 ·have h1:=rW x (x.p k) (m:=k'+1) (n:=4) (by omega);have h2:=rW x (x.p k) (m:=k+1) (n:=k') (by omega);rw[kv,al he.symm]at h1;rw[kv,al rfl]at h2;show 2≤iI x (x.p k) 4;omega
 ·have h1:=rW x (x.p k) (m:=k+1) (n:=4) (by omega);have h2:=rW x (x.p k) (m:=k'+1) (n:=k) (by omega);rw[kv,al rfl]at h1;rw[kv,al he.symm]at h2;show 2≤iI x (x.p k) 4;omega
theorem Ca {x:aC}{p:Nat}(h:∀ k,k<4→x.p k≠p):g7 x p=0:=by
 rw[tj,ae (h 0 (by omega)),ae (h 1 (by omega)),ae (h 2 (by omega)),ae (h 3 (by omega))]
theorem HN {x:aC}{p:Nat}:0<g7 x p ↔ ∃ k,k<4∧x.p k=p:=by
 constructor
 ·intro h;by_cases h0:∃ k,k<4∧x.p k=p
  ·exact h0
  ·rw[Ca λk hk e=>h0 ⟨k,hk,e⟩]at h;omega
 ·rintro⟨k,hk,rfl⟩;exact rX hk
theorem HO {x y:aC}(h:∀ k,k<4→x.p k=y.p k)(p:Nat):g7 x p=g7 y p:=by
 rw[tj,tj,h 0 (by omega),h 1 (by omega),h 2 (by omega),h 3 (by omega)]
theorem Cb (p:Nat):cQ [] p=0:=rfl
theorem rY (x:aC)(l:List aC)(p:Nat):cQ (x::l) p=g7 x p+cQ l p:=by simp[cQ]
theorem wR (l m:List aC)(p:Nat):cQ (l++m) p=cQ l p+cQ m p:=by simp[cQ]
theorem wS {l:List aC}{i:Nat}(h:i<l.length)(p:Nat):cQ l p=g7 l[i] p+cQ (l.eraseIdx i) p:=by
 have h0:l=l.take i++l[i]::l.drop (i+1):=by rw[← j6 h,jz]
 rw[eraseIdx_eq_take_drop_succ,wR]
 conv=>lhs;rw[h0,wR,rY]
 omega
theorem Cc {l:List aC}{i:Nat}(h:i<l.length)(x:aC)(p:Nat):cQ (l.set i x) p+g7 l[i] p=cQ l p+g7 x p:=by
 have h1:=wS h p;have h2:=wS (l:=l.set i x) (i:=i) (by simpa using h) p;rw[getElem_set_self,eraseIdx_set_eq]at h2;omega
theorem tk {l:List aC}{x:aC}(h:x∈l)(p:Nat):g7 x p≤cQ l p:=by
 obtain⟨i,hi,rfl⟩:=List.mem_iff_getElem.1 h;have:=wS hi p;omega
theorem Cd (l:List aC)(p:Nat):cQ l p≤4*l.length:=by
 induction l with
 | nil=>simp[cQ]
 | cons x l ih=>rw[rY,e9];have:=HM x p;omega
structure Rel (A:Sn)(ps:List Pg):Prop where
 len:ps.length=A.room
 refs:∀ p q,ps[p]?=some q→q.refs=cQ A.ar p
 oP:∀ x∈A.ar,∀ k,k<4→∃ q,ps[x.p k]?=some q∧∀ j,j<8→q.g j=x.g (8*k+j)
structure WF (A:Sn):Prop where
 room:A.room≤200
 bound:A.n<1099511627776
 last:A.last≤A.n
 many:A.ar.length≤A.n
 sorted:(A.ar.map (·.id)).Pairwise (· < ·)
 lU:∀ x∈A.ar,1≤x.id∧x.id≤A.last∧1≤x.refs∧x.refs≤A.n
theorem Rel.ok {A:Sn}{ps:List Pg}(h:Rel A ps)(hw:WF A):ps.length≤200∧∀ p∈ps,p.refs<4611686018427387904:=by
 refine⟨h.len ▸ hw.room,λq hq=>?_⟩;obtain⟨i,hi,rfl⟩:=List.mem_iff_getElem.1 hq;rw[h.refs i _ (aO hi)];have:=Cd A.ar i;have:=hw.many;have:=hw.bound;omega
theorem Rel.used {A:Sn}{ps:List Pg}(h:Rel A ps):jF ps=A.used:=by
 have e:ps=(List.range ps.length).map (λi=>ps.getD i rR):=by
  apply ext_getElem (by simp);intro i h1 h2;simp[bl,aO h1]
 rw[jF,Sn.used,← h.len]
 conv=>lhs;rw[e]
 rw[List.countP_map];refine countP_congr λi hi=>?_;have dK:i<ps.length:=mem_range.1 hi;have:=h.refs i _ (aO dK);simp only[Function.comp,bl,aO dK,Option.getD_some,this]
theorem Rel.live {A:Sn}{ps:List Pg}(h:Rel A ps){x:aC}(hx:x∈A.ar){k:Nat}(hk:k<4):∃ h:x.p k<ps.length,0<ps[x.p k].refs∧∀ j,j<8→ps[x.p k].g j=x.g (8*k+j):=by
 obtain⟨q,h1,h2⟩:=h.oP x hx k hk;obtain⟨h3,h4⟩:=a1.1 h1;refine⟨h3,?_,λj hj=>by rw[h4];exact h2 j hj⟩;rw[h.refs _ _ (aO h3)];have:=tk hx (x.p k);have:=rX (x:=x) hk;omega
def g8 (ps:List Pg)(x:aC)(m:Nat):List Pg:=ps.mapIdx λp q=>⟨q.g,q.refs+iI x p m⟩
def iV (ps:List Pg)(x:aC)(m:Nat):List Pg:=ps.mapIdx λp q=>⟨q.g,q.refs-iI x p m⟩
theorem SN (ps:List Pg)(x:aC):g8 ps x 0=ps:=by
 apply ext_getElem (by simp[g8]);intro i h1 h2;simp[g8,y1]
theorem SO (ps:List Pg)(x:aC):iV ps x 0=ps:=by
 apply ext_getElem (by simp[iV]);intro i h1 h2;simp[iV,y1]
theorem wT (ps:List Pg)(x:aC)(m:Nat):(g8 ps x m).length=ps.length:=by simp[g8]
theorem y2 (ps:List Pg)(x:aC)(m:Nat):(iV ps x m).length=ps.length:=by simp[iV]
theorem wU {ps:List Pg}{x:aC}{m p:Nat}(h:p<(g8 ps x m).length):(g8 ps x m)[p]=⟨(ps[p]'(by rw[wT]at h;exact h)).g,(ps[p]'(by rw[wT]at h;exact h)).refs+iI x p m⟩:=by simp[g8]
theorem y3 {ps:List Pg}{x:aC}{m p:Nat}(h:p<(iV ps x m).length):(iV ps x m)[p]=⟨(ps[p]'(by rw[y2]at h;exact h)).g,(ps[p]'(by rw[y2]at h;exact h)).refs-iI x p m⟩:=by simp[iV]
theorem SQ {ps:List Pg}{x:aC}{m:Nat}(h:x.p m<(g8 ps x m).length):(g8 ps x m).set (x.p m) ⟨(g8 ps x m)[x.p m].g,(g8 ps x m)[x.p m].refs+1⟩=g8 ps x (m+1):=by
 apply ext_getElem (by simp[g8]);intro i h1 h2;rw[List.getElem_set,wU h2];by_cases hi:x.p m=i
 ·subst hi;rw[al rfl,wU h,kv,al rfl,Nat.add_assoc]
 ·rw[ae hi,wU (by simpa using h1),kv,ae hi];rfl
theorem SR {ps:List Pg}{x:aC}{m:Nat}(h:x.p m<(iV ps x m).length):(iV ps x m).set (x.p m) ⟨(iV ps x m)[x.p m].g,(iV ps x m)[x.p m].refs-1⟩=iV ps x (m+1):=by
 apply ext_getElem (by simp[iV]);intro i h1 h2;rw[List.getElem_set,y3 h2];by_cases hi:x.p m=i
 ·subst hi;rw[al rfl,y3 h,kv,al rfl,Nat.sub_sub]
 ·rw[ae hi,y3 (by simpa using h1),kv,ae hi];rfl
theorem HP (ps:List Pg)(x:aC)(m p:Nat):(g8 ps x m)[p]?=ps[p]?.map λq=>⟨q.g,q.refs+iI x p m⟩:=by simp[g8]
theorem HQ (ps:List Pg)(x:aC)(m p:Nat):(iV ps x m)[p]?=ps[p]?.map λq=>⟨q.g,q.refs-iI x p m⟩:=by simp[iV]
def Sn.add (A:Sn)(g:Nat→Int)(p:Nat→Nat):Sn:={ A with last:=A.last+1,n:=A.n+1,ar:=A.ar++[⟨A.last+1,1,g,p⟩] }
def Sn.drop (A:Sn)(i:Nat)(x:aC):Sn:={ A with ar:=if x.refs=1 then A.ar.eraseIdx i else A.ar.set i { x with refs:=x.refs-1 } }
def Sn.put (A:Sn)(i:Nat)(x:aC)(c:Nat)(v:Int):Sn:={ A with ar:=A.ar.set i { x with g:=ca x.g c v } }
def Sn.tl (A:Sn)(i:Nat)(x:aC)(c:Nat)(v:Int)(f:Nat):Sn:={ A with ar:=A.ar.set i { x with g:=ca x.g c v,p:=λj=>if j=c/8 then f else x.p j } }
theorem WF.add {A:Sn}(h:WF A)(hn:A.n+1<1099511627776)(g:Nat→Int)(p:Nat→Nat):WF (A.add g p):=by
 obtain⟨h1,h2,h3,h4,h5,h6⟩:=h;refine⟨h1,hn,by simp[Sn.add];omega,by simp[Sn.add];omega,?_,λx hx=>?_⟩
 ·simp only[Sn.add,cU,map_cons,map_nil];refine List.pairwise_append.2 ⟨h5,by simp,λa E b hb=>?_⟩;obtain⟨x,hx,rfl⟩:=c8.1 E;have:=(h6 x hx).2.1;simp at hb;omega
 ·simp only[Sn.add]at hx ⊢;rcases eV.1 hx with hx | hx
  ·have:=h6 x hx;omega
  ·simp at hx;subst hx;simp
theorem HR {l:List aC}{i:Nat}{x y:aC}(h:l[i]?=some x)(he:y.id=x.id):(l.set i y).map (·.id)=l.map (·.id):=by
 obtain⟨hi,rfl⟩:=a1.1 h;rw[List.map_set,he];apply ext_getElem?;intro j;rw[jA];by_cases hj:i=j
 ·subst hj;simp[hi]
 ·rw[ae hj]
theorem WF.set {A:Sn}(h:WF A){n:Nat}(hn:n<1099511627776)(hle:A.n≤n){i:Nat}{x y:aC}(hx:A.ar[i]?=some x)(he:y.id=x.id)(hr:1≤y.refs∧y.refs≤n):WF { A with n:=n,ar:=A.ar.set i y }:=by
 obtain⟨h1,h2,h3,h4,h5,h6⟩:=h;have eG:=bE hx;refine⟨h1,hn,by simp only;omega,by simp only[br];omega,by simp only;rw[HR hx he];exact h5,λz hz=>?_⟩;simp only at hz ⊢;rcases mem_or_eq_of_mem_set hz with hz | rfl
 ·have:=h6 z hz;omega
 ·have:=h6 x eG;rw[he];omega
theorem WF.erase {A:Sn}(h:WF A)(i:Nat):WF { A with ar:=A.ar.eraseIdx i }:=by
 obtain⟨h1,h2,h3,h4,h5,h6⟩:=h;refine⟨h1,h2,h3,?_,?_,λz hz=>h6 z (List.mem_of_mem_eraseIdx hz)⟩
 ·simp only;exact gO (List.length_eraseIdx_le _ _) h4
 ·simp only;rw[wQ];exact h5.sublist (List.eraseIdx_sublist _ _)
theorem WF.ids {A:Sn}(h:WF A){i j:Nat}{x y:aC}(hx:A.ar[i]?=some x)(hy:A.ar[j]?=some y)(he:x.id=y.id):i=j:=by
 obtain⟨hi,rfl⟩:=a1.1 hx;obtain⟨hj,rfl⟩:=a1.1 hy;have hp:=List.pairwise_iff_getElem.1 h.sorted;rcases Nat.lt_trichotomy i j with hl | hl | hl
 ·have:=hp i j (by simpa using hi) (by simpa using hj) hl;simp at this;omega
 ·exact hl
 ·have:=hp j i (by simpa using hj) (by simpa using hi) hl;simp at this;omega
theorem Rel.add {A:Sn}{ps:List Pg}(h:Rel A ps){x:aC}(hx:x∈A.ar):Rel (A.add x.g x.p) (g8 ps x 4):=by
 refine⟨by rw[wT];exact h.len,λp q hq=>?_,λy hy k hk=>?_⟩
 ·rw[HP]at hq;obtain⟨rZ,h1,rfl⟩:=Option.map_eq_some_iff.1 hq;have:=h.refs p rZ h1;simp only[Sn.add,wR,rY,Cb,this];rfl
 ·have h0 : ∀ y : aC, (∃ q, ps[y.p k]? = some q ∧ ∀ j, j < 8 → q.g j = y.g (8 * k + j)) → ∃ q, (g8 ps x 4)[y.p k]? = some q ∧ ∀ j, j < 8 → q.g j = y.g (8 * k + j) := by
   rintro y ⟨q,h1,h2⟩;exact⟨⟨q.g,q.refs+iI x (y.p k) 4⟩,by rw[HP,h1];rfl,h2⟩
  simp only[Sn.add]at hy;rcases eV.1 hy with hy | hy
  ·exact h0 y (h.oP y hy k hk)
  ·simp at hy;subst hy;exact h0 ⟨A.last+1,1,x.g,x.p⟩ (h.oP x hx k hk)
theorem Rel.SU {A:Sn}{ps:List Pg}(h:Rel A ps){n i:Nat}{x:aC}{r:Nat}(hx:A.ar[i]?=some x):Rel { A with n:=n,ar:=A.ar.set i { x with refs:=r } } ps:=by
 obtain⟨hi,rfl⟩:=a1.1 hx;refine⟨h.len,λp q hq=>?_,λy hy k hk=>?_⟩
 ·have:=Cc hi { A.ar[i] with refs:=r } p;have h2:g7 { A.ar[i] with refs:=r } p=g7 A.ar[i] p:=HO (λ_ _=>rfl) p;rw[h.refs p q hq];show cQ A.ar p=cQ (A.ar.set i { A.ar[i] with refs:=r }) p;omega
 ·simp only at hy;rcases mem_or_eq_of_mem_set hy with hy | rfl
  ·exact h.oP y hy k hk
  ·exact h.oP _ (getElem_mem hi) k hk
theorem Rel.erase {A:Sn}{ps:List Pg}(h:Rel A ps){i:Nat}{x:aC}(hx:A.ar[i]?=some x):Rel { A with ar:=A.ar.eraseIdx i } (iV ps x 4):=by
 obtain⟨hi,rfl⟩:=a1.1 hx;refine⟨by rw[y2];exact h.len,λp q hq=>?_,λy hy k hk=>?_⟩
 ·rw[HQ]at hq;obtain⟨rZ,h1,rfl⟩:=Option.map_eq_some_iff.1 hq;have:=h.refs p rZ h1;have h2:=wS hi p;simp only[this,h2];show _-g7 A.ar[i] p=_;omega
 ·obtain⟨q,h1,h2⟩:=h.oP y (List.mem_of_mem_eraseIdx hy) k hk;exact⟨⟨q.g,q.refs-iI A.ar[i] (y.p k) 4⟩,by rw[HQ,h1];rfl,h2⟩
theorem alone {A:Sn}{i:Nat}{x:aC}(hx:A.ar[i]?=some x){k:Nat}(hk:k<4)(h1:cQ A.ar (x.p k)≤1){j:Nat}{y:aC}(hy:A.ar[j]?=some y){k':Nat}(eT:k'<4)(he:y.p k'=x.p k):j=i∧k'=k:=by
 obtain⟨hi,rfl⟩:=a1.1 hx;have h2:=wS hi (A.ar[i].p k);have h3:=rX (x:=A.ar[i]) hk;have gI:j=i:=by
  rcases Nat.lt_trichotomy j i with hl | hl | hl
  ·have hm : y ∈ A.ar.eraseIdx i := by
    rw[List.mem_eraseIdx_iff_getElem?];exact⟨j,by omega,hy⟩
   have h4:=tk hm (A.ar[i].p k);rw[← he]at h4 h2 h3 h1;have:=rX (x:=y) eT;omega
  ·exact hl
  ·have hm : y ∈ A.ar.eraseIdx i := by
    rw[List.mem_eraseIdx_iff_getElem?];exact⟨j,by omega,hy⟩
   have h4:=tk hm (A.ar[i].p k);rw[← he]at h4 h2 h3 h1;have:=rX (x:=y) eT;omega
 refine⟨gI,?_⟩;subst gI;rw[aO hi]at hy;cases hy;by_cases jG:k'=k
 ·exact jG
 ·have:=SM hk eT (Ne.symm jG) he.symm;omega
theorem Rel.put {A:Sn}{ps:List Pg}(h:Rel A ps){i:Nat}{x:aC}(hx:A.ar[i]?=some x){c:Nat}(hc:c<32)(h1:cQ A.ar (x.p (c/8))=1)(v:Int)(hl:x.p (c/8)<ps.length) :
   Rel (A.put i x c v) (ps.set (x.p (c/8)) ⟨λj=>if j=c%8 then v else ps[x.p (c/8)].g j,1⟩):=by
 have hi:=(a1.1 hx).1;have gT:=(a1.1 hx).2;have hk:c/8<4:=by omega
 have wV:∀ p,cQ (A.put i x c v).ar p=cQ A.ar p:=λp=>by
  have:=Cc hi { x with g:=ca x.g c v } p;have h2:g7 { x with g:=ca x.g c v } p=g7 A.ar[i] p:=by rw[gT];exact HO (λ_ _=>rfl) p
  simp only[Sn.put];omega
 refine⟨by rw[br];exact h.len,λp q hq=>?_,λy hy k eT=>?_⟩
 ·rw[wV];rw[jA]at hq;by_cases hp:x.p (c/8)=p
  ·subst hp;rw[al rfl,al hl]at hq;cases hq;exact h1.symm
  ·rw[ae hp]at hq;exact h.refs p q hq
 ·simp only[Sn.put]at hy;obtain⟨j,hj⟩:=jH.1 hy;rw[jA]at hj;by_cases nK:i=j
  ·rw[al nK,al hi]at hj;cases hj;obtain⟨q,h2,h3⟩:=h.oP x (bE hx) k eT;by_cases qm:k=c/8
   ·subst qm;refine⟨⟨λj=>if j=c%8 then v else ps[x.p (c/8)].g j,1⟩,by simp[hl],λm hm=>?_⟩;rw[aO hl]at h2;cases h2;simp only[ca];by_cases j1:m=c%8
    ·rw[al j1,al (by omega)]
    ·rw[ae j1,ae (by omega)];exact h3 m hm
   ·have bN:x.p (c/8)≠x.p k:=λe=>qm (alone hx hk (by omega) hx eT e.symm).2;refine⟨q,by simp only;rw[getElem?_set_ne bN];exact h2,λm hm=>?_⟩;simp only[ca];rw[ae (by omega)];exact h3 m hm
  ·rw[ae nK]at hj;obtain⟨q,h2,h3⟩:=h.oP y (bE hj) k eT;have bN:x.p (c/8)≠y.p k:=λe=>nK (alone hx hk (by omega) hj eT e.symm).1.symm;exact⟨q,by rw[getElem?_set_ne bN];exact h2,h3⟩
theorem Rel.tl {A:Sn}{ps:List Pg}(h:Rel A ps){i:Nat}{x:aC}(hx:A.ar[i]?=some x){c f:Nat}(hc:c<32)(h1:1<cQ A.ar (x.p (c/8)))(v:Int)(hl:x.p (c/8)<ps.length)(hf:f<ps.length)(h0:ps[f].refs=0) :
   Rel (A.tl i x c v f) ((ps.set (x.p (c/8)) ⟨ps[x.p (c/8)].g,ps[x.p (c/8)].refs-1⟩).set f ⟨λj=>if j=c%8 then v else ps[x.p (c/8)].g j,1⟩):=by
 have hi:=(a1.1 hx).1;have gT:=(a1.1 hx).2;have hk:c/8<4:=by omega
 have Ce:cQ A.ar f=0:=by rw[← h.refs f _ (aO hf)];exact h0
 have Cg:∀ y∈A.ar,∀ k,k<4→y.p k≠f:=λy hy k eT e=>by
  have h2:=tk hy f;rw[← e]at h2 Ce;have:=rX (x:=y) eT;omega
 have eG:=bE hx;have y4:x.p (c/8)≠f:=Cg x eG _ hk;have HS:∀ p,g7 { x with g:=ca x.g c v,p:=λj=>if j=c/8 then f else x.p j } p+(if x.p (c/8)=p then 1 else 0)=g7 x p+(if f=p then 1 else 0):=λp=>by
  rw[tj,tj];simp only;rcases (by omega:c/8=0∨c/8=1∨c/8=2∨c/8=3) with e | e | e | e <;> rw[e] <;> simp <;> omega
 refine⟨by rw[br,br];exact h.len,λp q hq=>?_,λy hy k eT=>?_⟩
 ·have h2:=Cc hi { x with g:=ca x.g c v,p:=λj=>if j=c/8 then f else x.p j } p;have h3:=HS p;rw[gT]at h2;simp only[Sn.tl];by_cases hp:f=p
  ·subst hp;rw[getElem?_set_self (by rw[br];exact hf)]at hq;cases hq;rw[al rfl,ae y4]at h3;simp only;omega
  ·rw[getElem?_set_ne hp]at hq;rw[ae hp]at h3;by_cases hR:x.p (c/8)=p
   ·subst hR;rw[getElem?_set_self hl]at hq;cases hq;rw[al rfl]at h3;have h4:=h.refs _ _ (aO hl);simp only;omega
   ·rw[getElem?_set_ne hR]at hq;rw[ae hR]at h3;have h4:=h.refs _ _ hq;omega
 ·simp only[Sn.tl]at hy;obtain⟨j,hj⟩:=jH.1 hy;rw[jA]at hj;have u2:∀ y:aC,(∃ q,ps[y.p k]?=some q∧∀ j,j<8→q.g j=y.g (8*k+j))→y.p k≠f→∃ q,((ps.set (x.p (c/8)) ⟨ps[x.p (c/8)].g,ps[x.p (c/8)].refs-1⟩).set f ⟨λj=>if j=c%8 then v else ps[x.p (c/8)].g j,1⟩)[y.p k]?=some q∧∀ j,j<8→q.g j=y.g (8*k+j):=by
   rintro y ⟨q,h2,h3⟩ hn;by_cases hp:x.p (c/8)=y.p k
   ·rw[← hp]at h2 ⊢;rw[aO hl]at h2;cases h2;refine⟨⟨ps[x.p (c/8)].g,ps[x.p (c/8)].refs-1⟩,?_,h3⟩;rw[getElem?_set_ne (Ne.symm y4),getElem?_set_self hl]
   ·exact⟨q,by rw[getElem?_set_ne (Ne.symm hn),getElem?_set_ne hp];exact h2,h3⟩
  by_cases nK:i=j
  ·rw[al nK,al hi]at hj;cases hj;obtain⟨q,h2,h3⟩:=h.oP x eG k eT;by_cases qm:k=c/8
   ·subst qm;refine⟨⟨λj=>if j=c%8 then v else ps[x.p (c/8)].g j,1⟩,by simp only[if_true];rw[getElem?_set_self (by rw[br];exact hf)],λm hm=>?_⟩;rw[aO hl]at h2;cases h2;simp only[ca];by_cases j1:m=c%8
    ·rw[al j1,al (by omega)]
    ·rw[ae j1,ae (by omega)];exact h3 m hm
   ·obtain⟨q',h4,h5⟩:=u2 x ⟨q,h2,h3⟩ (Cg x eG k eT);refine⟨q',by simp only[ae qm];exact h4,λm hm=>?_⟩;simp only[ca];rw[ae (by omega)];exact h5 m hm
  ·rw[ae nK]at hj;exact u2 y (h.oP y (bE hj) k eT) (Cg y (bE hj) k eT)
end
section
def iJ (x:aC×Nat):SP:=aa x.2 232 x.1.cells
def kvs (xs:List (aC×Nat)):List (Int×Value):=xs.map λx=>((x.1.id:Int),Value.pointer (some ⟨x.2,0,none⟩))
def aw (q r:Nat)(A:Sn):SP:=λh=>∃ b m ps xs,(xs.map (·.1)=A.ar∧WF A∧Rel A ps) ∧
 ck [aa q 221 [pt r,.map (some m),.int .i64 A.last],mp m (kvs xs),Room r b ps,ah iJ xs] h
section
variable {W w:World}{L L' R:List SP}{q r b m i pb:Nat}{A:Sn}{ps:List Pg}{xs:List (aC×Nat)}{x y:aC}
theorem aw.open (I:V W w (aw q r A::L)):∃ b m ps xs,xs.map (·.1)=A.ar∧WF A∧Rel A ps ∧
   V W w (aa q 221 [pt r,.map (some m),.int .i64 A.last]::mp m (kvs xs)::Room r b ps::ah iJ xs::L):=by
 obtain⟨⟨b,m,ps,xs⟩,⟨h1,h2,h3⟩,h4⟩:=I.jj (ι:=Nat×Nat×List Pg×List (aC×Nat)) (p:=λi=>i.2.2.2.map (·.1)=A.ar∧WF A∧Rel A i.2.2.1)
  (B:=λi h=>ck [aa q 221 [pt r,.map (some i.2.1),.int .i64 A.last],mp i.2.1 (kvs i.2.2.2),Room r i.1 i.2.2.1,ah iJ i.2.2.2] h)
  (λh ⟨b,m,ps,xs,h1,h2⟩=>⟨(b,m,ps,xs),h1,h2⟩)
 exact⟨b,m,ps,xs,h1,h2,h3,h4.open λ_ h=>h⟩
theorem aw.close {last:Nat}(I:V W w L)[k:fD L (aa q 221 [pt r,.map (some m),.int .i64 last]::mp m (kvs xs)::Room r b ps::ah iJ xs::L') R]
   (h1:xs.map (·.1)=A.ar) (h2:WF A) (h3:Rel A ps) (hl:A.last=last:=by rfl):V W w (aw q r A::L'):=by
 subst hl;exact V.shut (M:=[_,_,_,_]) (I.sub (M:=aa q 221 [pt r,.map (some m),.int .i64 A.last]::mp m (kvs xs)::Room r b ps::ah iJ xs::L')) (λ_ x=>⟨b,m,ps,xs,⟨h1,h2,h3⟩,x⟩)
theorem pP (h1:xs.map (·.1)=A.ar)(hx:A.ar[i]?=some x):∃ pb,xs[i]?=some (x,pb):=by
 rw[← h1,bn]at hx;obtain⟨⟨y,pb⟩,h2,rfl⟩:=Option.map_eq_some_iff.1 hx;exact⟨pb,h2⟩
theorem V.qA (I:V W w L)(hx:xs[i]?=some (x,pb))[k:pF L (ah iJ xs) R]:V W w (aa pb 232 x.cells::ah iJ (xs.eraseIdx i)::R):=by
 obtain⟨hi,he⟩:=a1.1 hx;have:=(I.perm k.perm).fE hi;rw[he]at this;exact this
theorem SV (hx:xs[i]?=some (x,pb))(he:y.id=x.id):kvs (xs.set i (y,pb))=kvs xs:=by
 have hi:=(a1.1 hx).1;apply ext_getElem?;intro j;simp only[kvs,bn,jA];by_cases hj:i=j
 ·subst hj;rw[al rfl,al hi,hx];simp[he]
 ·rw[ae hj]
theorem aw.tm {B:Sn}{last:Nat}(I:V W w L)[k:fD L (aa q 221 [pt r,.map (some m),.int .i64 last]::mp m (kvs xs)::Room r b ps::aa pb 232 y.cells::ah iJ (xs.eraseIdx i)::L') R]
   (hx:xs[i]?=some (x,pb)) (h1:xs.map (·.1)=A.ar) (he:y.id=x.id) (hB:B.ar=A.ar.set i y) (h2:WF B) (h3:Rel B ps) (hl:B.last=last:=by rfl):V W w (aw q r B::L'):=by
 subst hl;obtain⟨hi,_⟩:=a1.1 hx;have h0:=I.sub (M:=aa q 221 [pt r,.map (some m),.int .i64 B.last]::mp m (kvs xs)::Room r b ps::aa pb 232 y.cells::ah iJ (xs.eraseIdx i)::L');have h4:=h0.sub (M:=aa pb 232 y.cells::ah iJ (xs.eraseIdx i)::aa q 221 [pt r,.map (some m),.int .i64 B.last]::mp m (kvs xs)::Room r b ps::L');have h5:=V.ko (f:=iJ) (x:=(y,pb)) hi h4;rw[← SV (y:=y) hx he]at h5;exact aw.close (b:=b) (m:=m) (xs:=xs.set i (y,pb)) h5 (by rw[List.map_set,h1,hB]) h2 h3
theorem wW (hx:A.ar[i]?=some x):A.ar=A.ar.set i x:=by
 obtain⟨hi,rfl⟩:=a1.1 hx;rw[set_getElem_self]
theorem findAt (h1:xs.map (·.1)=A.ar)(hw:WF A)(hx:xs[i]?=some (x,pb)):mF (kvs xs) (x.id:Int) 0=some (i,pt pb):=by
 have hA:∀ (j:Nat) (z:aC×Nat),xs[j]?=some z→A.ar[j]?=some z.1:=λj z hz=>by rw[← h1,bn,hz];rfl
 have:=St (kvs:=kvs xs) (k:=(x.id:Int)) (v:=pt pb) (j:=i) 0 (by rw[kvs,bn,hx];rfl) (λj hj p hp=>by
  rw[kvs,bn]at hp;obtain⟨z,hz,rfl⟩:=Option.map_eq_some_iff.1 hp;intro e;simp at e;have:=hw.ids (hA j z hz) (hA i _ hx) (Int.ofNat.inj e);omega)
 rwa [Nat.zero_add]at this
theorem pQ {last:Nat}(I:V W w (aa q 221 [pt r,.map (some m),.int .i64 last]::mp m (kvs xs)::L))(h1:xs.map (·.1)=A.ar)(hw:WF A)(hx:xs[i]?=some (x,pb)) :
   Calls prog 120 #[pt q,.int .i64 x.id] w λe w'=>e=.returned (pt pb) ∧
    V W w' (aa q 221 [pt r,.map (some m),.int .i64 last]::mp m (kvs xs)::L):=by
 have hf:=findAt h1 hw hx;refine EN func120 ntmps120 rfl rfl λa E=>?_;refine RN 6 E I λa E=>?_;replace E:=E.aN 6;refine RN 7 E I λa E=>?_;refine SS E (HG E underlying218 underlying166 Ty.t219 I (v:=pt pb) (by rw[hf];rfl)) λa E=>?_;refine RT 1 E I ?_;exact⟨rfl,I⟩
theorem HT {last:Nat}{X:Int}(I:V W w (aa q 221 [pt r,.map (some m),.int .i64 last]::mp m (kvs xs)::L))(h1:xs.map (·.1)=A.ar)(hn:∀ y∈A.ar,(y.id:Int)≠X) :
   Calls prog 120 #[pt q,.int .i64 X] w λe w'=>e=.returned (.pointer none) ∧
    V W w' (aa q 221 [pt r,.map (some m),.int .i64 last]::mp m (kvs xs)::L):=by
 have hf:mF (kvs xs) X 0=none:=HC (λp hp=>by
  obtain⟨z,hz,rfl⟩:=c8.1 hp;exact hn z.1 (by rw[← h1];exact c8.2 ⟨z,hz,rfl⟩)) 0
 refine EN func120 ntmps120 rfl rfl λa E=>?_;refine RN 6 E I λa E=>?_;replace E:=E.aN 6;refine RN 7 E I λa E=>?_;refine SS E (HG E underlying218 underlying166 Ty.t219 I (v:=.pointer none) (by rw[hf];rfl)) λa E=>?_;refine RT 1 E I ?_;exact⟨rfl,I⟩
theorem SW (I:V W w (aw q r A::L))(hx:A.ar[i]?=some x) :
   Calls prog 214 #[pt q,.int .i64 x.id] w λe w'=>e=.returned (.int .i64 x.refs)∧V W w' (aw q r A::L):=by
 obtain⟨b,m,ps,xs,h1,hw,hr,I⟩:=aw.open I;obtain⟨pb,a8⟩:=pP h1 hx;refine EN func214 ntmps214 rfl rfl λa E=>?_;refine CL 5 E I (pQ I h1 hw a8) λa w E I=>?_;refine RN 5 E I λa E=>?_;replace E:=E.aN 10;refine RN 2 E I λa E=>?_;replace I:=I.qA a8;refine RN 3 E I λa E=>?_;refine SS E (ag E (I.bu aC.ref)) λa E=>?_;refine RT 1 E I ?_;exact⟨rfl,aw.tm (b:=b) (m:=m) (ps:=ps) (pb:=pb) (y:=x) I a8 h1 rfl (wW hx) hw hr⟩
theorem SY {X:Int}(I:V W w (aw q r A::L))(hn:∀ y∈A.ar,(y.id:Int)≠X) :
   Calls prog 214 #[pt q,.int .i64 X] w λe w'=>e=.returned (.int .i64 0)∧V W w' (aw q r A::L):=by
 obtain⟨b,m,ps,xs,h1,hw,hr,I⟩:=aw.open I;refine EN func214 ntmps214 rfl rfl λa E=>?_;refine CL 5 E I (HT I h1 hn) λa w E I=>?_;refine RN 5 E I λa E=>?_;replace E:=E.eo 10;refine RT 3 E I ?_;exact⟨rfl,aw.close (b:=b) (m:=m) I h1 hw hr⟩
theorem y5 {c:Nat}(h:c<4096):IntKind.i64.wrap ((c:Int).tdiv 8)=(c:Int).tdiv 8:=by
 rw[show (c:Int).tdiv 8=((c/8:Nat):Int) from qn c 8];exact gr (by omega) (by omega)
theorem HU {c:Nat}(I:V W w (aw q r A::L))(hx:A.ar[i]?=some x)(hc:c<32) :
   Calls prog 308 #[pt q,.int .i64 x.id,.int .i64 c] w λe w'=>e=.returned (.tuple #[.int .i32 (x.g c),.bool true])∧V W w' (aw q r A::L):=by
 obtain⟨b,m,ps,xs,h1,hw,hr,I⟩:=aw.open I;obtain⟨pb,a8⟩:=pP h1 hx;obtain⟨gv,hR,r0⟩:=hr.live (bE hx) (k:=c/8) (by omega);refine EN func308 ntmps308 rfl rfl λa E=>?_;refine CL 6 E I (pQ I h1 hw a8) λa w E I=>?_;refine RN 6 E I λa E=>?_;replace E:=E.aN 14;refine RN 4 E I λa E=>?_;rw[bq (by omega)]at E;refine RN 3 E I λa E=>?_;rw[bq (by omega)]at E;refine RN 2 E I λa E=>?_;replace I:=I.qA a8;refine bL 0 [10] [0,1,2,4,5,6,7,8,9,11,12,3003,1010,1013,14,15,16,17] E I λa w E I hH U=>?_;refine RH 5 E I hH U λa E=>?_;refine QP E (λw=>uV E (by decide) (y5 (by omega))) λa E=>?_;rw[show (c:Int).tdiv 8=((c/8:Nat):Int) from qn c 8]at E;refine RH 4 E I hH U λa E=>?_;refine QP E (λw=>yL E (by decide)) λa E=>?_;rw[show (c:Int).tmod 8=((c%8:Nat):Int) from nH c 8]at E;refine RH 1 E I hH U λa E=>?_;refine SS E (ag E (I.bu (aC.at (by omega)))) λa E=>?_;refine RH 0 E I hH U λa E=>?_;refine CL 0 E I (Sk (I.pick (Room r b ps)) gv hR (Nat.mod_lt c (by decide))) λa w E I=>?_;refine RN 4 E I λa E=>?_;refine RT 0 E I ?_;exact⟨by rw[r0 _ (Nat.mod_lt c (by decide)),show 8*(c/8)+c%8=c from by omega],aw.tm (b:=b) (m:=m) (ps:=ps) (pb:=pb) (y:=x) I a8 h1 rfl (wW hx) hw hr⟩
theorem HV {A:Sn}(h1:xs.map (·.1)=A.ar)(hw:WF A):∀ p∈kvs xs,p.1≠((A.last+1:Nat):Int):=by
 intro p hp;obtain⟨z,hz,rfl⟩:=c8.1 hp;have:=(hw.lU z.1 (by rw[← h1];exact c8.2 ⟨z,hz,rfl⟩)).2.1;simp only;omega
theorem SZ {i:Int}(h1:-9223372036854775808≤i)(h2:i≤9223372036854775807):(Lit.int .i64 i).wf=true:=(Lit.wf_int_iff .i64 i).2 ⟨h1,h2⟩
theorem HW {last:Nat}(I:V W w (aa q 221 [pt r,.map (some m),.int .i64 last]::mp m (kvs xs)::L))(hl:last<1099511627776)(hn:∀ p∈kvs xs,p.1≠((last+1:Nat):Int)) :
   Calls prog 129 #[pt q,.agg (aC.cells x).toArray] w λe w'=>∃ pb,e=.returned (.int .i64 ((last+1:Nat):Int)) ∧
    V W w' (aa q 221 [pt r,.map (some m),.int .i64 ((last+1:Nat):Int)]::mp m (kvs xs++[(((last+1:Nat):Int),pt pb)])::aa pb 232 (aC.cells { x with refs:=1 })::L):=by
 refine EN func129 ntmps129 rfl rfl λa E=>?_;refine BX 1 E I λb3 a w E I=>?_;refine RN 7 E I λa E=>?_;rw[show ((last:Int)+1)=((last+1:Nat):Int) from rfl]at E;refine ST 2 E I (λa w E I=>?_);refine ST 2 E I (λa w E I=>?_) (hlt:=(by rw[aC.len];decide));rw[show (Value.int IntKind.i64 1)=.int .i64 ((1:Nat):Int) from rfl,aC.B9]at I;refine bL 1 [7] [0,1,2,4,5,6,3003,1007,1008] E I λa w E I hH U=>?_;refine RH 8 E I hH U λa E=>?_;refine Sw E rfl I underlying218 underlying166 (SZ (by omega) (by omega)) hn λa w E I=>?_;refine RT 6 E I ?_;exact⟨b3,rfl,I.sub⟩
theorem V.Ch {e:Nat}(I:V W w L)(pb:Nat)[k:fC L pb e x.cells R]:Rd w pb 0 (ints .i64 4 (λk=>(x.p k:Int)+1)):=by
 have:=I.pD (b:=pb) (off:=0) (cs:=x.cells) 4 (sc:=lK.any)
 rwa [drop_zero,aC.cells,List.take_left' (di _ _ _)]at this
theorem HX (I:V W w (aw q r A::L))(hx:A.ar[i]?=some x)(hb:A.n+1<1099511627776) :
   Calls prog 181 #[pt q,.int .i64 x.id] w λe w'=>e=.returned (.tuple #[.int .i64 ((A.last+1:Nat):Int),.bool true])∧V W w' (aw q r (A.add x.g x.p)::L):=by
 obtain⟨b,m,ps,xs,h1,hw,hr,I⟩:=aw.open I;obtain⟨pb,a8⟩:=pP h1 hx;have eG:=bE hx;have tn:=hw.last;have y6:=hr.add eG;have y7:=hw.add hb x.g x.p;have dm:=y6.ok y7;refine EN func181 ntmps181 rfl rfl λa E=>?_;refine CL 6 E I (pQ I h1 hw a8) λa w E I=>?_;refine RN 5 E I λa E=>?_;replace E:=E.aN 13;refine RN 3 E I λa E=>?_;replace I:=I.qA a8;refine RN 3 E I λa E=>?_;refine SS E (bO E underlying230 rfl Ty.t230 (I.Ch pb)) λa E=>?_;refine RN 1 E I λa E=>?_;refine aS (λμ a w=>∃ k:Nat,(μ=4-k∧k≤4)∧Fr a 33 [(0,pt q),(6,pt pb),(17,.agg (ints .i64 4 (λk=>(x.p k:Int)+1)).toArray),(18,.int .i64 k)]∧V W w (Room r b (g8 ps x k)::aa pb 232 x.cells::ah iJ (xs.eraseIdx i)::aa q 221 [pt r,.map (some m),.int .i64 A.last]::mp m (kvs xs)::L)) (4) (⟨0,⟨by simp,by simp⟩,E.ab [0,6,17,18],by rw[SN];exact I.sub⟩) ?_;clear E I;rintro μ a w ⟨k,⟨rfl,hk⟩,E,I⟩;have S4:=wT ps x k;refine IF 3 E I (λan a E=>?_) λan a E=>?_
 ·
  refine RN 2 E I λa E=>?_;refine SS E (rI E underlying230 underlying3 rfl Ty.t3 (by omega) (fO _ (by omega))) λa E=>?_;refine RN 1 E I λa E=>?_;obtain⟨gv,hR,r0⟩:=hr.live eG (k:=k) (by omega);have u3:x.p k<(g8 ps x k).length:=by omega
  have Ci:=SQ u3;have S5:(g8 ps x k)[x.p k].refs+1<4611686018427387904:=by
   have h3:=rW x (x.p k) (m:=k+1) (n:=4) (by omega);have h4:=dm.2 _ (getElem_mem (show x.p k<(g8 ps x 4).length by rw[wT];exact gv));rw[wU]at h4 ⊢;rw[kv,al rfl]at h3;simp only at h4 ⊢;omega
  have Cj:0<(g8 ps x k)[x.p k].refs:=by rw[wU];simp only;omega
  refine CL 5 E I (Sj (I.pick (Room r b (g8 ps x k))) u3 Cj S5) λa w E I=>?_;rw[Ci]at I;refine RN 2 E I λa E=>?_;exact⟨4-(k+1),by omega,k+1,⟨rfl,by omega⟩,E.ab [0,6,17,18],I.sub⟩
 obtain rfl:k=4:=by omega
 refine bd 5 E I (HW (q:=q) (r:=r) (m:=m) (last:=A.last) (L:=Room r b (g8 ps x 4)::aa pb 232 x.cells::ah iJ (xs.eraseIdx i)::L) I.sub (by have:=hw.bound;omega) (HV h1 hw)) λu4 a w E I=>?_;refine RT 2 E I ?_;refine⟨rfl,?_⟩;have hi:=(a1.1 a8).1;have h5:=V.ko (f:=iJ) (x:=(x,pb)) hi (I.sub (M:=aa pb 232 x.cells::ah iJ (xs.eraseIdx i)::aa u4 232 (aC.cells { x with refs:=1 })::aa q 221 [pt r,.map (some m),.int .i64 ((A.last+1:Nat):Int)]::mp m (kvs xs++[(((A.last+1:Nat):Int),pt u4)])::Room r b (g8 ps x 4)::L));rw[show xs.set i (x,pb)=xs from by
  have:=a1.1 a8;rw[← this.2,set_getElem_self]]at h5
 have h6:=V.jB (f:=iJ) (x:=(⟨A.last+1,1,x.g,x.p⟩,u4)) (h5.perm (List.Perm.swap _ _ _));rw[show kvs xs++[(((A.last+1:Nat):Int),Value.pointer (some ⟨u4,0,none⟩))]=kvs (xs++[(⟨A.last+1,1,x.g,x.p⟩,u4)]) from by simp[kvs]]at h6;exact aw.close (last:=A.last+1) (b:=b) (m:=m) (xs:=xs++[(⟨A.last+1,1,x.g,x.p⟩,u4)]) h6 (by simp[Sn.add,h1]) y7 y6
theorem S6 (I:V W w (aw q r A::L))(hx:A.ar[i]?=some x)(h2:x.refs≠1) :
   Calls prog 185 #[pt q,.int .i64 x.id] w λe w'=>e=.returned (.bool true)∧V W w' (aw q r (A.drop i x)::L):=by
 obtain⟨b,m,ps,xs,h1,hw,hr,I⟩:=aw.open I;obtain⟨pb,a8⟩:=pP h1 hx;have Ck:=hw.lU x (bE hx);have hA:A.drop i x={ A with n:=A.n,ar:=A.ar.set i { x with refs:=x.refs-1 } }:=by rw[Sn.drop,ae h2]
 have m8:=hw.bound;refine EN func185 ntmps185 rfl rfl λa E=>?_;refine CL 5 E I (pQ I h1 hw a8) λa w E I=>?_;refine RN 5 E I λa E=>?_;replace E:=E.aN 12;refine RN 3 E I λa E=>?_;replace I:=I.qA a8;refine RN 3 E I λa E=>?_;refine SS E (ag E (I.bu aC.ref)) λa E=>?_;refine ST 3 E I (λa w E I=>?_) (hlt:=(by rw[aC.len];decide));rw[show ((x.refs:Int)-1)=((x.refs-1:Nat):Int) from by omega,aC.B9]at I;refine RN 4 E I λa E=>?_;refine SS E (ag E (I.bu aC.ref)) λa E=>?_;refine RN 1 E I λa E=>?_;rw[dd (by simp;omega)]at E;refine RT 3 E I ?_;exact⟨rfl,aw.tm (last:=A.last) (b:=b) (m:=m) (ps:=ps) (pb:=pb) (y:={ x with refs:=x.refs-1 }) (B:=A.drop i x) I a8 h1 rfl (by rw[hA]) (by rw[hA];exact hw.set m8 (bh _) hx rfl (by simp only;omega)) (by rw[hA];exact hr.SU hx)⟩
theorem S7 (I:V W w (aw q r A::L))(hx:A.ar[i]?=some x)(h2:x.refs=1) :
   Calls prog 185 #[pt q,.int .i64 x.id] w λe w'=>e=.returned (.bool true)∧V W w' (aw q r (A.drop i x)::L):=by
 obtain⟨b,m,ps,xs,h1,hw,hr,I⟩:=aw.open I;obtain⟨pb,a8⟩:=pP h1 hx;have eG:=bE hx;have hA:A.drop i x={ A with ar:=A.ar.eraseIdx i }:=by rw[Sn.drop,al h2]
 refine EN func185 ntmps185 rfl rfl λa E=>?_;refine CL 5 E I (pQ I h1 hw a8) λa w E I=>?_;refine RN 5 E I λa E=>?_;replace E:=E.aN 12;refine RN 3 E I λa E=>?_;replace I:=I.qA a8;refine RN 3 E I λa E=>?_;refine SS E (ag E (I.bu aC.ref)) λa E=>?_;refine ST 3 E I (λa w E I=>?_) (hlt:=(by rw[aC.len];decide));rw[show ((x.refs:Int)-1)=((x.refs-1:Nat):Int) from by omega,aC.B9]at I;refine RN 4 E I λa E=>?_;refine SS E (ag E (I.bu aC.ref)) λa E=>?_;refine RN 1 E I λa E=>?_;rw[bq (by simp;omega)]at E;refine RN 6 E I λa E=>?_;refine SS E (bO E underlying230 rfl Ty.t230 (I.Ch (x:={ x with refs:=x.refs-1 }) pb)) λa E=>?_;refine RN 1 E I λa E=>?_;refine aS (λμ a w=>∃ k:Nat,(μ=4-k∧k≤4)∧Fr a 44 [(0,pt q),(1,.int .i64 x.id),(28,.agg (ints .i64 4 (λk=>(x.p k:Int)+1)).toArray),(29,.int .i64 k)]∧V W w (Room r b (iV ps x k)::ah iJ (xs.eraseIdx i)::aa q 221 [pt r,.map (some m),.int .i64 A.last]::mp m (kvs xs)::L)) (4) (⟨0,⟨by simp,by simp⟩,E.ab [0,1,28,29],by rw[SO];exact I.sub⟩) ?_;clear E I;rintro μ a w ⟨k,⟨rfl,hk⟩,E,I⟩;have S4:=y2 ps x k;refine IF 3 E I (λay a E=>?_) λay a E=>?_
 ·
  refine RN 2 E I λa E=>?_;refine SS E (rI E underlying230 underlying3 rfl Ty.t3 (by omega) (fO _ (by omega))) λa E=>?_;refine RN 1 E I λa E=>?_;obtain⟨gv,hR,r0⟩:=hr.live eG (k:=k) (by omega);have u3:x.p k<(iV ps x k).length:=by omega
  have Ci:=SR u3;have Cj:0<(iV ps x k)[x.p k].refs:=by
   have h3:=rW x (x.p k) (m:=k+1) (n:=4) (by omega);have h4:=hr.refs _ _ (aO gv);have h5:iI x (x.p k) 4≤cQ A.ar (x.p k):=tk eG (x.p k);rw[kv,al rfl]at h3;rw[y3];simp only;omega
  refine CL 5 E I (Hz (I.pick (Room r b (iV ps x k))) u3 Cj) λa w E I=>?_;rw[Ci]at I;refine RN 2 E I λa E=>?_;exact⟨4-(k+1),by omega,k+1,⟨rfl,by omega⟩,E.ab [0,1,28,29],I.sub⟩
 obtain rfl:k=4:=by omega
 refine RN 6 E I λa E=>?_;refine Sy E rfl I underlying218 underlying166 (findAt h1 hw a8) λa w E I=>?_;refine RT 2 E I ?_;have hk:(kvs xs).eraseIdx i=kvs (xs.eraseIdx i):=(wQ _ _ _).symm;rw[hk]at I;exact⟨rfl,aw.close (last:=A.last) (b:=b) (m:=m) (ps:=iV ps x 4) (xs:=xs.eraseIdx i) I (by rw[hA,wQ,h1]) (by rw[hA];exact hw.erase i) (by rw[hA];exact hr.erase hx) (by rw[hA])⟩
theorem S8 (I:V W w (aw q r A::L))(hx:A.ar[i]?=some x) :
   Calls prog 185 #[pt q,.int .i64 x.id] w λe w'=>e=.returned (.bool true)∧V W w' (aw q r (A.drop i x)::L):=by
 by_cases h:x.refs=1
 ·exact S7 I hx h
 ·exact S6 I hx h
theorem S9 {X:Int}(I:V W w (aw q r A::L))(hn:∀ y∈A.ar,(y.id:Int)≠X) :
   Calls prog 185 #[pt q,.int .i64 X] w λe w'=>e=.returned (.bool false)∧V W w' (aw q r A::L):=by
 obtain⟨b,m,ps,xs,h1,hw,hr,I⟩:=aw.open I;refine EN func185 ntmps185 rfl rfl λa E=>?_;refine CL 5 E I (HT I h1 hn) λa w E I=>?_;refine RN 5 E I λa E=>?_;replace E:=E.eo 12;refine RT 3 E I ?_;exact⟨rfl,aw.close (b:=b) (m:=m) I h1 hw hr⟩
theorem WF.put (hw:WF A)(hx:A.ar[i]?=some x){g:Nat→Int}{p:Nat→Nat}:WF { A with ar:=A.ar.set i { x with g:=g,p:=p } } :=
 hw.set (n:=A.n) (y:={ x with g:=g,p:=p }) hw.bound (bh _) hx rfl (by have:=hw.lU x (bE hx);simp only;omega)
theorem Ta {c:Nat}{v:Int}(I:V W w (aw q r A::L))(hx:A.ar[i]?=some x)(hc:c<32)(h1:cQ A.ar (x.p (c/8))=1) :
   Calls prog 346 #[pt q,.int .i64 x.id,.int .i64 c,.int .i32 v] w λe w'=>e=.returned (.bool true)∧V W w' (aw q r (A.put i x c v)::L):=by
 obtain⟨b,m,ps,xs,h2,hw,hr,I⟩:=aw.open I;obtain⟨pb,a8⟩:=pP h2 hx;obtain⟨gv,hR,r0⟩:=hr.live (bE hx) (k:=c/8) (by omega);have u5:ps[x.p (c/8)].refs=1:=by rw[hr.refs _ _ (aO gv)];exact h1
 refine EN func346 ntmps346 rfl rfl λa E=>?_;refine CL 5 E I (pQ I h2 hw a8) λa w E I=>?_;refine RN 6 E I λa E=>?_;replace E:=E.aN 18;refine RN 4 E I λa E=>?_;rw[bq (by omega)]at E;refine RN 3 E I λa E=>?_;rw[bq (by omega)]at E;refine RN 2 E I λa E=>?_;replace I:=I.qA a8;refine RN 2 E I λa E=>?_;refine SS E (uV E (by decide) (y5 (by omega))) λa E=>?_;rw[show (c:Int).tdiv 8=((c/8:Nat):Int) from qn c 8]at E;refine bL 6 [6] [0,1,2,4,5,3003,1006,1007,8] E I λa w E I hH U=>?_;refine RH 6 E I hH U λa E=>?_;refine SS E (ag E (I.bu (aC.at (by omega)))) λa E=>?_;refine RH 0 E I hH U λa E=>?_;refine CL 0 E I (yS (I.pick (Room r b ps)) gv hR) λa w E I=>?_;rw[u5]at E;refine RN 1 E I λa E=>?_;rw[bq (by omega)]at E;refine bL 2 [6] [0,1,2,4,5,7,8,9,3003,1006,1010,11] E I λa w E I hH U=>?_;refine RH 6 E I hH U λa E=>?_;refine QP E (λw=>yL E (by decide)) λa E=>?_;rw[show (c:Int).tmod 8=((c%8:Nat):Int) from nH c 8]at E;refine RH 2 E I hH U λa E=>?_;refine SS E (ag E (I.bu (aC.at (by omega)))) λa E=>?_;refine RH 0 E I hH U λa E=>?_;refine CL 0 E I (B2 (I.pick (Room r b ps)) gv u5 (Nat.mod_lt c (by decide))) λa w E I=>?_;refine RN 1 E I λa E=>?_;refine RT 0 E I ?_;rw[show x.cells=aC.cells { x with g:=ca x.g c v } from rfl]at I;exact⟨rfl,aw.tm (B:=A.put i x c v) (last:=A.last) (b:=b) (m:=m) (pb:=pb) (y:={ x with g:=ca x.g c v }) (ps:=ps.set (x.p (c/8)) ⟨λj=>if j=c%8 then v else ps[x.p (c/8)].g j,1⟩) I a8 h2 rfl rfl (hw.put hx) (hr.put hx hc h1 v gv)⟩
theorem HY {ps:List Pg}(h:yT ps):jF ps=ps.length:=by
 rw[jF,List.countP_eq_length];intro p hp;obtain⟨i,hi,rfl⟩:=List.mem_iff_getElem.1 hp;have:=h i hi;simp;omega
theorem Tb {ps:List Pg}{f:Nat}(h:th ps f):jF ps<ps.length:=by
 obtain⟨hf,h0,_⟩:=h;have h1:=u0 ps;rcases Nat.lt_or_ge (jF ps) ps.length with h2 | h2
 ·exact h2
 ·have:=(List.countP_eq_length (p:=λp:Pg=>decide (0<p.refs)) (l:=ps)).1 (Nat.le_antisymm h1 h2) _ (getElem_mem hf);simp at this;omega
theorem Tc {c:Nat}{v:Int}(I:V W w (aw q r A::L))(hx:A.ar[i]?=some x)(hc:c<32)(h1:1<cQ A.ar (x.p (c/8)))(hu:A.used<A.room) :
   Calls prog 346 #[pt q,.int .i64 x.id,.int .i64 c,.int .i32 v] w λe w'=>∃ f,e=.returned (.bool true)∧(f<A.room∧cQ A.ar f=0)∧V W w' (aw q r (A.tl i x c v f)::L):=by
 obtain⟨b,m,ps,xs,h2,hw,hr,I⟩:=aw.open I;obtain⟨pb,a8⟩:=pP h2 hx;obtain⟨gv,hR,r0⟩:=hr.live (bE hx) (k:=c/8) (by omega);have u5:ps[x.p (c/8)].refs=cQ A.ar (x.p (c/8)):=hr.refs _ _ (aO gv);rcases B3 ps with bQ | ⟨f,hf⟩
 ·have:=HY bQ;rw[hr.used,hr.len]at this;omega
 have iS:=hf.1;have jk:=hf.2.1;have Ce:cQ A.ar f=0:=by rw[← hr.refs f _ (aO iS)];exact jk
 have bN:x.p (c/8)≠f:=by
  intro e;rw[e]at h1;omega
 have kx:x.p (c/8)<(ps.set f ⟨ps[x.p (c/8)].g,1⟩).length:=by rw[br];exact gv
 have e1:(ps.set f ⟨ps[x.p (c/8)].g,1⟩)[x.p (c/8)]=ps[x.p (c/8)]:=List.getElem_set_ne (Ne.symm bN) _;have lV:f<((ps.set f ⟨ps[x.p (c/8)].g,1⟩).set (x.p (c/8)) ⟨ps[x.p (c/8)].g,ps[x.p (c/8)].refs-1⟩).length:=by rw[br,br];exact iS
 have e2:((ps.set f ⟨ps[x.p (c/8)].g,1⟩).set (x.p (c/8)) ⟨ps[x.p (c/8)].g,ps[x.p (c/8)].refs-1⟩)[f]=⟨ps[x.p (c/8)].g,1⟩:=by rw[List.getElem_set_ne bN,getElem_set_self]
 have ft:((ps.set f ⟨ps[x.p (c/8)].g,1⟩).set (x.p (c/8)) ⟨ps[x.p (c/8)].g,ps[x.p (c/8)].refs-1⟩).set f ⟨λj=>if j=c%8 then v else ps[x.p (c/8)].g j,1⟩=(ps.set (x.p (c/8)) ⟨ps[x.p (c/8)].g,ps[x.p (c/8)].refs-1⟩).set f ⟨λj=>if j=c%8 then v else ps[x.p (c/8)].g j,1⟩:=by
  rw[List.set_comm _ _ (Ne.symm bN),set_set]
 refine EN func346 ntmps346 rfl rfl λa E=>?_;refine CL 5 E I (pQ I h2 hw a8) λa w E I=>?_;refine RN 6 E I λa E=>?_;replace E:=E.aN 18;refine RN 4 E I λa E=>?_;rw[bq (by omega)]at E;refine RN 3 E I λa E=>?_;rw[bq (by omega)]at E;refine RN 2 E I λa E=>?_;replace I:=I.qA a8;refine RN 2 E I λa E=>?_;refine SS E (uV E (by decide) (y5 (by omega))) λa E=>?_;rw[show (c:Int).tdiv 8=((c/8:Nat):Int) from qn c 8]at E;refine bL 6 [6] [0,1,2,4,5,3003,1006,1007,8] E I λa w E I hH U=>?_;refine RH 6 E I hH U λa E=>?_;refine SS E (ag E (I.bu (aC.at (by omega)))) λa E=>?_;refine RH 0 E I hH U λa E=>?_;refine CL 0 E I (yS (I.pick (Room r b ps)) gv hR) λa w E I=>?_;refine RN 1 E I λa E=>?_;rw[dd (by omega)]at E;refine bL 2 [6] [0,1,2,4,5,3003,1006,1007,8,9,10,11,12] E I λa w E I hH U=>?_;refine RH 6 E I hH U λa E=>?_;refine SS E (ag E (I.bu (aC.at (by omega)))) λa E=>?_;refine RH 0 E I hH U λa E=>?_;refine CL 0 E I (Sq (I.pick (Room r b ps)) gv hR hf) λa w E I=>?_;refine RN 5 E I λa E=>?_;refine RN 4 E I λa E=>?_;replace E:=E.aN 53;refine bL 2 [6] [0,1,2,4,5,3003,1006,1007] E I λa w E I hH U=>?_;refine RH 6 E I hH U λa E=>?_;refine SS E (ag E (I.bu (aC.at (by omega)))) λa E=>?_;refine RH 0 E I hH U λa E=>?_;refine CL 0 E I (Hz (I.pick (Room r b (ps.set f ⟨ps[x.p (c/8)].g,1⟩))) kx (by rw[e1];exact hR)) λa w E I=>?_;rw[e1]at I;refine ST 3 E I (λa w E I=>?_) (hlt:=(by rw[aC.len];omega));rw[aC.SL (by omega) (ca x.g c v)]at I;refine bL 1 [6] [0,1,2,4,5,7,8,9,3003,1006,1010,11] E I λa w E I hH U=>?_;refine RH 6 E I hH U λa E=>?_;refine QP E (λw=>yL E (by decide)) λa E=>?_;rw[show (c:Int).tmod 8=((c%8:Nat):Int) from nH c 8]at E;refine RH 2 E I hH U λa E=>?_;refine SS E (ag E (I.bu (aC.at (x:={ x with p:=λj=>if j=c/8 then f else x.p j,g:=ca x.g c v }) (by omega)))) λa E=>?_;simp only[if_true]at E;refine RH 0 E I hH U λa E=>?_;refine CL 0 E I (B2 (I.pick (Room r b ((ps.set f ⟨ps[x.p (c/8)].g,1⟩).set (x.p (c/8)) ⟨ps[x.p (c/8)].g,ps[x.p (c/8)].refs-1⟩))) lV (by rw[e2]) (Nat.mod_lt c (by decide))) λa w E I=>?_;rw[e2,ft]at I;refine RN 1 E I λa E=>?_;refine RT 0 E I ?_;exact⟨f,rfl,⟨hr.len ▸ iS,Ce⟩,aw.tm (B:=A.tl i x c v f) (last:=A.last) (b:=b) (m:=m) (pb:=pb) (y:={ x with p:=λj=>if j=c/8 then f else x.p j,g:=ca x.g c v }) I a8 h2 rfl rfl (hw.put hx) (hr.tl hx hc h1 v gv iS jk)⟩
theorem Td {c:Nat}{v:Int}(I:V W w (aw q r A::L))(hx:A.ar[i]?=some x)(hc:c<32)(h1:1<cQ A.ar (x.p (c/8)))(hu:A.room≤A.used) :
   Calls prog 346 #[pt q,.int .i64 x.id,.int .i64 c,.int .i32 v] w λe w'=>e=.returned (.bool false)∧V W w' (aw q r A::L):=by
 obtain⟨b,m,ps,xs,h2,hw,hr,I⟩:=aw.open I;obtain⟨pb,a8⟩:=pP h2 hx;obtain⟨gv,hR,r0⟩:=hr.live (bE hx) (k:=c/8) (by omega);have u5:ps[x.p (c/8)].refs=cQ A.ar (x.p (c/8)):=hr.refs _ _ (aO gv);rcases B3 ps with bQ | ⟨f,hf⟩
 rotate_left
 ·have:=Tb hf;rw[hr.used,hr.len]at this;omega
 refine EN func346 ntmps346 rfl rfl λa E=>?_;refine CL 5 E I (pQ I h2 hw a8) λa w E I=>?_;refine RN 6 E I λa E=>?_;replace E:=E.aN 18;refine RN 4 E I λa E=>?_;rw[bq (by omega)]at E;refine RN 3 E I λa E=>?_;rw[bq (by omega)]at E;refine RN 2 E I λa E=>?_;replace I:=I.qA a8;refine RN 2 E I λa E=>?_;refine SS E (uV E (by decide) (y5 (by omega))) λa E=>?_;rw[show (c:Int).tdiv 8=((c/8:Nat):Int) from qn c 8]at E;refine bL 6 [6] [0,1,2,4,5,3003,1006,1007,8] E I λa w E I hH U=>?_;refine RH 6 E I hH U λa E=>?_;refine SS E (ag E (I.bu (aC.at (by omega)))) λa E=>?_;refine RH 0 E I hH U λa E=>?_;refine CL 0 E I (yS (I.pick (Room r b ps)) gv hR) λa w E I=>?_;refine RN 1 E I λa E=>?_;rw[dd (by omega)]at E;refine bL 2 [6] [0,1,2,4,5,3003,1006,1007,8,9,10,11,12] E I λa w E I hH U=>?_;refine RH 6 E I hH U λa E=>?_;refine SS E (ag E (I.bu (aC.at (by omega)))) λa E=>?_;refine RH 0 E I hH U λa E=>?_;refine CL 0 E I (Sp (I.pick (Room r b ps)) gv hR bQ) λa w E I=>?_;refine RN 5 E I λa E=>?_;refine RN 4 E I λa E=>?_;replace E:=E.eo 53;refine RT 3 E I ?_;exact⟨rfl,aw.tm (b:=b) (m:=m) (ps:=ps) (pb:=pb) (y:=x) I a8 h2 rfl (wW hx) hw hr⟩
end
end
end Go.Proofs.YteoldcfapaiobaaGreat
