/- The walks of package page. -/
import Derived.Test.YteoldcfapaiobaaGreatG01Row
import Derived.Maps.Own
import Derived.Shelf.SlIterI.Nil
import Derived.Shelf.SortM.Plain
import Derived.Shelf.SortM.SortNone
import Derived.DataShut
namespace Go.Proofs.YteoldcfapaiobaaGreat
open Tryz
open List (drop_zero take_zero nil_append map_cons getElem?_cons_succ length_nil mem_range getElem?_toArray getElem?_range ext_getElem eraseIdx_set_eq ext_getElem? set_set map_take map_drop map_nil range_succ countP_congr getElem?_set_ne getElem?_set_self)
open Go.RowKit
set_option linter.unusedVariables false
set_option linter.unusedSimpArgs false
set_option maxRecDepth 10000
set_option synthInstance.maxSize 4000
set_option synthInstance.maxHeartbeats 400000
section
structure Pg where
 g:Nat→Int
 refs:Nat
def Pg.cells (p:Pg):List Value:=ints .i32 8 p.g++[.int .i64 p.refs]
def il (ps:List Pg):List Value:=rows Pg.cells ps
def s8:Pg:=⟨λ_=>0,0⟩
def pL:Pg:=⟨λ_=>0,1⟩
theorem Pg.len (p:Pg):p.cells.length=9:=by simp[Pg.cells,dj]
theorem wo (ps:List Pg):(il ps).length=ps.length*9:=jw Pg.len ps
theorem Pg.one (p:Pg):∀ v∈p.cells,v.oneCell'=true:=by
 intro v hv;rcases eT.1 hv with h | h
 ·exact uD v h
 ·simp at h;subst h;rfl
theorem s9 {ps:List Pg}{i:Nat}(h:i<ps.length):(il ps)[i*9+8]?=some (.int .i64 ps[i].refs):=Dw Pg.len ps h (by simp[Pg.cells,dj])
theorem Uz {ps:List Pg}{i k:Nat}(h:i<ps.length)(hk:k<8):(il ps)[i*9+k]?=some (.int .i32 (ps[i].g k)):=Dw Pg.len ps h (by
 rw[Pg.cells,mF (by rw[dj];exact hk),fV _ hk])
theorem Jl {ps:List Pg}{i r:Nat}(h:i<ps.length):(il ps).set (i*9+8) (.int .i64 r)=il (ps.set i ⟨ps[i].g,r⟩):=qG Pg.len ps _ h (by decide) (by
 rw[Pg.cells,uz _ _ (by rw[dj];exact a7 _),dj];rfl)
theorem UA {ps:List Pg}{i k:Nat}{v:Int}(h:i<ps.length)(hk:k<8):(il ps).set (i*9+k) (.int .i32 v)=il (ps.set i ⟨λj=>if j=k then v else ps[i].g j,ps[i].refs⟩):=qG Pg.len ps _ h (by omega) (by
 rw[Pg.cells,sT _ _ (by rw[dj];exact hk),ints_set];rfl)
theorem UB {ps:List Pg}{i:Nat}(p:Pg)(h:i<ps.length):cG (il ps) (i*9) p.cells=il (ps.set i p):=I3 Pg.len ps p h
theorem UC {ps:List Pg}{i:Nat}(h:i<ps.length):((il ps).drop (i*9)).take 8=ints .i32 8 ps[i].g:=by
 have:=RA (k:=0) (m:=8) Pg.len ps h (by decide);simp only[Nat.add_zero,drop_zero]at this;rw[il,this,Pg.cells,List.take_left' (dj _ _ _)]
theorem UD {ps:List Pg}{i:Nat}{g:Nat→Int}(h:i<ps.length):cG (il ps) (i*9) (ints .i32 8 g)=il (ps.set i ⟨g,ps[i].refs⟩):=by
 have:=Rz (k:=0) (vs:=ints .i32 8 g) Pg.len ps ⟨g,ps[i].refs⟩ h (by rw[dj];decide) (by
  simp only[cG,Pg.cells,take_zero,nil_append,dj,eG];rw[List.drop_left' (dj _ _ _)])
 rw[Nat.add_zero]at this;exact this
def Room (q b:Nat)(ps:List Pg):SP:=λh=>(ps.length≤200∧∀ p∈ps,p.refs<4611686018427387904)∧cm [aa q 224 [.slice (some ⟨b,0,none⟩) ps.length ps.length],aa b 227 (il ps)] h
theorem Room.open {W w:World}{L:List SP}{q b:Nat}{ps:List Pg}(I:U W w (Room q b ps::L)):(ps.length≤200∧∀ p∈ps,p.refs<4611686018427387904) ∧
   U W w (aa q 224 [.slice (some ⟨b,0,none⟩) ps.length ps.length]::aa b 227 (il ps)::L) :=
 ⟨I.tell λ_ h=>h.1,I.open λ_ h=>h.2⟩
theorem Room.close {W w:World}{L L' R:List SP}{q b n:Nat}{ps:List Pg}(I:U W w L)(hn:ps.length=n)(h:ps.length≤200∧∀ p∈ps,p.refs<4611686018427387904)
   [k:fI L (aa q 224 [.slice (some ⟨b,0,none⟩) n n]::aa b 227 (il ps)::L') R]:U W w (Room q b ps::L'):=by
 subst hn;exact U.shut (M:=[_,_]) (I.sub (M:=aa q 224 [.slice (some ⟨b,0,none⟩) ps.length ps.length]::aa b 227 (il ps)::L')) (λ_ x=>⟨h,x⟩)
theorem UE (n:Nat):(madeCells (Value.cells (.agg #[.int .i32 0,.int .i32 0,.int .i32 0,.int .i32 0,.int .i32 0,.int .i32 0,.int .i32 0,.int .i32 0,.int .i64 0])) (n*9)).toList=il (List.replicate n s8):=by
 apply ext_getElem?;intro i;by_cases hi:i<n*9
 ·obtain⟨j,k,hk,rfl⟩:∃ j k,k<9∧i=j*9+k:=⟨i/9,i%9,Nat.mod_lt _ (by decide),by omega⟩;have hj:j<(List.replicate n s8).length:=by simp;omega
  have hv:(Pg.cells s8)[k]?=some ((Pg.cells s8)[k]'(by rw[Pg.len];exact hk)):=aD _;rw[il,Dw Pg.len _ hj (by rw[List.getElem_replicate];exact hv)];simp only[madeCells,Value.cells,Array.toList_map,bl];rw[Array.toList_range,getElem?_range hi];have h1:(j*9+k)%9=k:=by omega
  simp only[Option.map_some,List.size_toArray,eH,length_nil,Nat.reduceAdd,h1,Option.some.injEq];rcases k with _ | _ | _ | _ | _ | _ | _ | _ | _ | k <;> first | rfl | omega
 ·rw[jt,jt]
  ·rw[wo];simp;omega
  ·simp[madeCells];omega
theorem UF {W w:World}{L:List SP}{n:Nat}(I:U W w L)(hn:n≤200) :
   Calls prog 124 #[.int .i64 n] w λe w'=>∃ q b,e=.returned (pt q)∧U W w' (Room q b (List.replicate n s8)::L):=by
 refine EN func124 ntmps124 rfl rfl λa E=>?_;refine RN 6 E I λa E=>?_;rw[show min (max (n:Int) 0) 200=(n:Int) from by omega]at E;refine rB E rfl I underlying222 Ty.t227 rfl (by omega) (by omega) λcH a w E I ho=>?_;clear ho;rw[UE]at I;refine BX 1 E I λb8 a w E I=>?_;refine RT 1 E I ?_;refine⟨b8,cH,rfl,(Room.close (n:=_) I kJ ⟨by simp;exact hn,?_⟩)⟩;intro p hp;rw[(List.mem_replicate.1 hp).2];decide
section
variable {W w:World}{L:List SP}{q b i:Nat}{ps:List Pg}
theorem ta (I:U W w (Room q b ps::L))(hi:i<ps.length)(hr:0<ps[i].refs) :
   Calls prog 122 #[pt q,.int .i64 ((i:Int)+1)] w λe w'=>e=.returned (.pointer (some ⟨b,i*9,none⟩))∧U W w' (Room q b ps::L):=by
 obtain⟨hp,I⟩:=Room.open I;refine EN func122 ntmps122 rfl rfl λa E=>?_;refine RN 7 E I λa E=>?_;replace E:=E.aP 7;refine RN 4 E I λa E=>?_;rw[bo (by omega)]at E;refine RN 9 E I λa E=>?_;rw[bo (by omega)]at E;refine RN 6 E I λa E=>?_;rw[show (i:Int)+1-1=(i:Int) from by omega]at E;refine RN 2 E I λa E=>?_;refine bw E (cw E rfl (s:=20)) (ae E (I.bz (s9 hi))) rfl λa E=>?_;refine RN 2 E I λa E=>?_;rw[bo (by omega)]at E;refine RN 8 E I λa E=>?_;rw[show (i:Int)+1-1=(i:Int) from by omega]at E;refine RT 2 E I ?_;exact⟨rfl,(Room.close (n:=_) I rfl hp)⟩
theorem U.Jm {R:List SP}{e:Nat}(I:U W w L)[k:fH L b e (il ps) R](hi:i<ps.length):Rd w b (i*9) (ints .i32 8 ps[i].g):=by
 rw[← UC hi];exact I.qv 8
theorem U.UG {R:List SP}{e:Nat}(I:U W w L)[k:fH L b e (il ps) R](hi:i<ps.length):Rd w b (i*9) ps[i].cells:=by
 rw[← wa Pg.len ps i hi];exact I.qv 9
theorem As (I:U W w (Room q b ps::L))(hi:i<ps.length)(hr:0<ps[i].refs) :
   Calls prog 86 #[pt q,.int .i64 ((i:Int)+1)] w λe w'=>e=.returned (.int .i64 ps[i].refs)∧U W w' (Room q b ps::L):=by
 refine EN func86 ntmps86 rfl rfl λa E=>?_;refine CL 5 E I (ta I hi hr) λa w E I=>?_;refine RN 5 E I λa E=>?_;replace E:=E.aP 10;refine RN 2 E I λa E=>?_;obtain⟨hp,I⟩:=Room.open I;refine RN 3 E I λa E=>?_;refine SS E (ae E (I.bz (s9 hi))) λa E=>?_;refine RT 1 E I ?_;exact⟨rfl,(Room.close (n:=_) I rfl hp)⟩
theorem yd {ps:List Pg}{i r:Nat}{g:Nat→Int}(hp:ps.length≤200∧∀ p∈ps,p.refs<4611686018427387904)(hr:r<4611686018427387904) :
   (ps.set i ⟨g,r⟩).length≤200∧∀ p∈ps.set i ⟨g,r⟩,p.refs<4611686018427387904:=by
 refine⟨by rw[bt];exact hp.1,λp h=>?_⟩;rcases rK h with h | h
 ·exact hp.2 p h
 ·rw[h];exact hr
theorem UH (I:U W w (Room q b ps::L))(hi:i<ps.length)(hr:0<ps[i].refs)(hb:ps[i].refs+1<4611686018427387904) :
   Calls prog 208 #[pt q,.int .i64 ((i:Int)+1)] w λe w'=>e=.returned (.bool true)∧U W w' (Room q b (ps.set i ⟨ps[i].g,ps[i].refs+1⟩)::L):=by
 refine EN func208 ntmps208 rfl rfl λa E=>?_;refine CL 5 E I (ta I hi hr) λa w E I=>?_;refine RN 5 E I λa E=>?_;replace E:=E.ed 10;refine RN 1 E I λa E=>?_;obtain⟨hp,I⟩:=Room.open I;refine RN 3 E I λa E=>?_;refine SS E (ae E (I.bz (s9 hi))) λa E=>?_;refine ST 3 E I (λa w E I=>?_) (hlt:=(by rw[wo];omega));rw[show ((ps[i].refs:Int)+1)=((ps[i].refs+1:Nat):Int) from rfl,Jl hi]at I;refine RT 4 E I ?_;exact⟨rfl,(Room.close (n:=ps.length) I bt (yd hp hb))⟩
theorem Jn (I:U W w (Room q b ps::L))(hi:i<ps.length)(hr:0<ps[i].refs) :
   Calls prog 213 #[pt q,.int .i64 ((i:Int)+1)] w λe w'=>e=.returned (.bool true)∧U W w' (Room q b (ps.set i ⟨ps[i].g,ps[i].refs-1⟩)::L):=by
 refine EN func213 ntmps213 rfl rfl λa E=>?_;refine CL 5 E I (ta I hi hr) λa w E I=>?_;refine RN 5 E I λa E=>?_;replace E:=E.ed 10;refine RN 1 E I λa E=>?_;obtain⟨hp,I⟩:=Room.open I;have hb:=hp.2 _ (jd hi);refine RN 3 E I λa E=>?_;refine SS E (ae E (I.bz (s9 hi))) λa E=>?_;refine ST 3 E I (λa w E I=>?_) (hlt:=(by rw[wo];omega));rw[show ((ps[i].refs:Int)-1)=((ps[i].refs-1:Nat):Int) from by omega,Jl hi]at I;refine RT 4 E I ?_;exact⟨rfl,(Room.close (n:=ps.length) I bt (yd hp (by omega)))⟩
theorem UI {k:Nat}(I:U W w (Room q b ps::L))(hi:i<ps.length)(hr:0<ps[i].refs)(hk:k<8) :
   Calls prog 323 #[pt q,.int .i64 ((i:Int)+1),.int .i64 k] w λe w'=>e=.returned (.tuple #[.int .i32 (ps[i].g k),.bool true])∧U W w' (Room q b ps::L):=by
 refine EN func323 ntmps323 rfl rfl λa E=>?_;refine CL 6 E I (ta I hi hr) λa w E I=>?_;refine RN 6 E I λa E=>?_;replace E:=E.aP 14;refine RN 4 E I λa E=>?_;rw[bo (by omega)]at E;refine RN 3 E I λa E=>?_;rw[bo (by omega)]at E;refine RN 2 E I λa E=>?_;obtain⟨hp,I⟩:=Room.open I;refine RN 5 E I λa E=>?_;refine SS E (ae E (I.bz (Uz hi hk))) λa E=>?_;refine RT 2 E I ?_;exact⟨rfl,(Room.close (n:=_) I rfl hp)⟩
theorem DP {k:Nat}{v:Int}(I:U W w (Room q b ps::L))(hi:i<ps.length)(hr:ps[i].refs=1)(hk:k<8) :
   Calls prog 128 #[pt q,.int .i64 ((i:Int)+1),.int .i64 k,.int .i32 v] w λe w'=>e=.returned (.bool true)∧U W w' (Room q b (ps.set i ⟨λj=>if j=k then v else ps[i].g j,1⟩)::L):=by
 refine EN func128 ntmps128 rfl rfl λa E=>?_;refine CL 5 E I (ta I hi (by omega)) λa w E I=>?_;refine RN 6 E I λa E=>?_;replace E:=E.aP 15;refine RN 4 E I λa E=>?_;rw[bo (by omega)]at E;refine RN 4 E I λa E=>?_;obtain⟨hp,I⟩:=Room.open I;rw[bo (by omega)]at E;refine RN 3 E I λa E=>?_;refine bw E (cw E rfl (s:=23)) (ae E (I.bz (s9 hi))) rfl λa E=>?_;refine RN 2 E I λa E=>?_;rw[bo (by omega)]at E;refine ST 8 E I (λa w E I=>?_) (hlt:=(by rw[wo];omega));rw[UA hi hk,hr]at I;refine RT 2 E I ?_;exact⟨rfl,(Room.close (n:=ps.length) I bt (yd hp (by omega)))⟩
def uH (ps:List Pg)(i:Nat):Prop:=∃ h:i<ps.length,ps[i].refs=0∧∀ j,(hj:j<i)→0<ps[j].refs
def Au (ps:List Pg):Prop:=∀ j,(h:j<ps.length)→0<ps[j].refs
theorem DQ (ps:List Pg):Au ps∨∃ i,uH ps i:=by
 have aux:∀ n,(∀ j,(h:j<ps.length)→j<n→0<ps[j].refs)∨∃ i,uH ps i:=by
  intro n
  induction n with
  | zero=>exact .inl λj _ h=>by omega
  | succ n ih =>
   rcases ih with h | h
   ·by_cases hn:n<ps.length
    ·by_cases h0:ps[n].refs=0
     ·exact .inr ⟨n,hn,h0,λj hj=>h j (by omega) hj⟩
     ·refine .inl λj hj qH=>?_;rcases gR j n with h1 | h1
      ·exact h j hj h1
      ·obtain rfl:j=n:=by omega
       omega
    ·exact .inl λj hj qH=>h j hj (by omega)
   ·exact .inr h
 rcases aux ps.length with h | h
 ·exact .inl λj hj=>h j hj hj
 ·exact .inr h
theorem Jo (I:U W w (Room q b ps::L))(hf:uH ps i) :
   Calls prog 126 #[pt q] w λe w'=>e=.returned (.tuple #[.int .i64 ((i:Int)+1),.bool true])∧U W w' (Room q b (ps.set i pL)::L):=by
 obtain⟨hi,h0,DR⟩:=hf;obtain⟨hp,I⟩:=Room.open I;refine EN func126 ntmps126 rfl rfl λa E=>?_;refine RN 7 E I λa E=>?_;replace E:=E.aP 6;refine RN 9 E I λa E=>?_;refine aN (λμ a w=>∃ k:Nat,(μ=i-k∧k≤i)∧Fr a 34 [(0,pt q),(11,.int .i64 ps.length),(12,.int .i64 k)]∧U W w (aa q 224 [.slice (some ⟨b,0,none⟩) ps.length ps.length]::aa b 227 (il ps)::L)) (i) (⟨0,⟨by simp,by simp⟩,E.ab [0,11,12],I.sub⟩) ?_;clear E I;rintro μ a w ⟨k,⟨rfl,hk⟩,E,I⟩;refine RN 3 E I λa E=>?_;rw[dk (by omega)]at E;refine RN 13 E I λa E=>?_;refine SS E (ae E (I.bz (s9 (by omega)))) λa E=>?_;refine IF 1 E I (λay a E=>?_) λay a E=>?_
 ·
  obtain rfl : k = i := by
      rcases gR k i with h | h
      ·have:=DR k h;omega
      ·omega
  refine RN 8 E I λa E=>?_;refine ru E rfl I Ty.t227 (by simp[Value.oneCell']) (by rw[wo];simp;omega) λa w E I=>?_;replace I:=I.jZ b;change U W w (aa b 227 (cG (il ps) (k*9) pL.cells)::_) at I;rw[UB pL hi]at I;refine RT 5 E I ?_;exact⟨rfl,(Room.close (n:=ps.length) I bt (yd (g:=λ_=>0) (r:=1) hp (by omega)))⟩
 have IT : k < i := by
     rcases gR k i with h | h
     ·exact h
     ·obtain rfl:k=i:=by omega
      omega
 refine RN 2 E I λa E=>?_;exact⟨i-(k+1),by omega,k+1,⟨rfl,by omega⟩,E.ab [0,11,12],I.sub⟩
theorem UJ (I:U W w (Room q b ps::L))(hf:Au ps) :
   Calls prog 126 #[pt q] w λe w'=>e=.returned (.tuple #[.int .i64 0,.bool false])∧U W w' (Room q b ps::L):=by
 obtain⟨hp,I⟩:=Room.open I;refine EN func126 ntmps126 rfl rfl λa E=>?_;refine RN 7 E I λa E=>?_;replace E:=E.aP 6;refine RN 9 E I λa E=>?_;refine aN (λμ a w=>∃ k:Nat,(μ=ps.length-k∧k≤ps.length)∧Fr a 34 [(0,pt q),(11,.int .i64 ps.length),(12,.int .i64 k)]∧U W w (aa q 224 [.slice (some ⟨b,0,none⟩) ps.length ps.length]::aa b 227 (il ps)::L)) (ps.length) (⟨0,⟨by simp,by simp⟩,E.ab [0,11,12],I.sub⟩) ?_;clear E I;rintro μ a w ⟨k,⟨rfl,hk⟩,E,I⟩;refine IF 3 E I (λao a E=>?_) λao a E=>?_
 ·
  refine RN 12 E I λa E=>?_;have b0:=hf k (by omega);refine SS E (ae E (I.bz (s9 (by omega)))) λa E=>?_;refine RN 1 E I λa E=>?_;rw[bo (by omega)]at E;refine RN 3 E I λa E=>?_;exact⟨ps.length-(k+1),by omega,k+1,⟨rfl,by omega⟩,E.ab [0,11,12],I.sub⟩
 refine RT 3 E I ?_;exact⟨rfl,(Room.close (n:=_) I rfl hp)⟩
theorem UK (I:U W w (Room q b ps::L))(hi:i<ps.length)(hr:0<ps[i].refs)(hf:Au ps) :
   Calls prog 347 #[pt q,.int .i64 ((i:Int)+1)] w λe w'=>e=.returned (.tuple #[.int .i64 0,.bool false])∧U W w' (Room q b ps::L):=by
 refine EN func347 ntmps347 rfl rfl λa E=>?_;refine CL 6 E I (ta I hi hr) λa w E I=>?_;refine RN 5 E I λa E=>?_;replace E:=E.aP 13;refine CL 3 E I (UJ I hf) λa w E I=>?_;refine RN 8 E I λa E=>?_;replace E:=E.aP 19;refine RT 6 E I ?_;exact⟨rfl,I⟩
theorem UL {k:Nat}(I:U W w (Room q b ps::L))(hi:i<ps.length)(hr:0<ps[i].refs)(hf:uH ps k) :
   Calls prog 347 #[pt q,.int .i64 ((i:Int)+1)] w λe w'=>e=.returned (.tuple #[.int .i64 ((k:Int)+1),.bool true])∧U W w' (Room q b (ps.set k ⟨ps[i].g,1⟩)::L):=by
 have hk:=hf.1;have bD:k≠i:=by
  rintro rfl;obtain⟨_,h,_⟩:=hf;omega
 have dI:k<(ps.set k pL).length:=by rw[bt];exact hk
 have aI:i<(ps.set k pL).length:=by rw[bt];exact hi
 have e1:(ps.set k pL)[k]=pL:=by rw[oH]
 have e2:(ps.set k pL)[i]=ps[i]:=by rw[List.getElem_set_ne bD]
 refine EN func347 ntmps347 rfl rfl λa E=>?_;refine CL 6 E I (ta I hi hr) λa w E I=>?_;refine RN 5 E I λa E=>?_;replace E:=E.aP 13;refine CL 3 E I (Jo I hf) λa w E I=>?_;refine RN 8 E I λa E=>?_;replace E:=E.ed 19;refine aV 1 (λw0 w'=>Rd w' b (i*9) (ints .i32 8 ps[i].g)) [2] [0,1,3,4,5,3006,1002,7,8,1009] E I λa w E I hH=>?_
 have hC : Rd w b (i * 9) (ints .i32 8 ps[i].g) := by
     have:=U.Jm (b:=b) (e:=227) (Room.open I).2 aI
     rwa [e2]at this
 refine RH 5 E I hH hC λa E=>?_;refine QH E (λw hc=>bT E underlying225 rfl Ty.t225 (hc)) hC λa E=>?_;refine RH 0 E I hH hC λa E=>?_;refine CL 0 E I (ta I dI (by rw[e1];decide)) λa w E I=>?_
 replace hC : (fun w' => Rd w' b (i * 9) (ints .i32 8 ps[i].g)) w := by
     have:=U.Jm (b:=b) (e:=227) (Room.open I).2 aI
     rwa [e2]at this
 refine RH 2 E I hH hC λa E=>?_;obtain⟨hp,I⟩:=Room.open I;refine ru E rfl I Ty.t225 uD (by rw[wo,dj];omega) λa w E I=>?_;rw[UD dI,set_set,e1,show pL.refs=1 from rfl]at I;refine RT 5 E I ?_;exact⟨rfl,(Room.close (n:=(ps.set k pL).length) I (by rw[bt,bt]) (by have:=yd (g:=ps[i].g) (r:=1) (i:=k) hp (by decide);rwa [set_set]at this))⟩
def j5 (ps:List Pg):Nat:=ps.countP λp=>decide (0<p.refs)
theorem wq (ps:List Pg):j5 ps≤ps.length:=List.countP_le_length
theorem UM {ps:List Pg}{k:Nat}(h:k<ps.length):j5 (ps.take (k+1))=j5 (ps.take k)+if 0<ps[k].refs then 1 else 0:=by
 rw[j5,jx h,List.countP_append,j5,List.countP_singleton];by_cases h:0<ps[k].refs <;> simp[h]
theorem Jp (I:U W w (Room q b ps::L)) :
   Calls prog 84 #[pt q] w λe w'=>e=.returned (.int .i64 (j5 ps))∧U W w' (Room q b ps::L):=by
 obtain⟨hp,I⟩:=Room.open I;refine EN func84 ntmps84 rfl rfl λa E=>?_;refine RN 6 E I λa E=>?_;replace E:=E.aP 7;refine RN 11 E I λa E=>?_;refine aN (λμ a w=>∃ k:Nat,(μ=ps.length-k∧k≤ps.length)∧Fr a 24 [(3,.int .i64 (j5 (ps.take k))),(11,.slice (some ⟨b,0,none⟩) ps.length ps.length),(12,.int .i64 ps.length),(13,.int .i64 k)]∧U W w (aa q 224 [.slice (some ⟨b,0,none⟩) ps.length ps.length]::aa b 227 (il ps)::L)) (ps.length) (⟨0,⟨by simp,by simp⟩,E.ab [3,11,12,13],I.sub⟩) ?_;clear E I;rintro μ a w ⟨k,⟨rfl,hk⟩,E,I⟩;have pM:=wq (ps.take k);rw[eA]at pM;refine IF 3 E I (λao a E=>?_) λao a E=>?_
 ·
  have mK:k<ps.length:=by omega
  have Av:=UM mK;refine RN 3 E I λa E=>?_;refine SS E (bT E underlying227 rfl Ty.t227 (I.UG mK)) λa E=>?_;refine AL 0 E I λb5 a w E I=>?_;refine RN 0 E I λa E=>?_;refine ru E rfl I Ty.t227 (Pg.one _) (by rw[Pg.len];exact a7 _) λa w E I=>?_;rw[show cG _ 0 ps[k].cells=ps[k].cells from by simp[cG,Pg.len]]at I;refine RN 2 E I λa E=>?_;refine SS E (ae E (I.bz (show ps[k].cells[8]?=some (.int .i64 ps[k].refs) from by simp[Pg.cells,dj]))) λa E=>?_;refine IF 1 E I (λay a E=>?_) λay a E=>?_
  ·
   rw[ak (by omega)]at Av;refine RN 5 E I λa E=>?_;exact⟨ps.length-(k+1),by omega,k+1,⟨rfl,by omega⟩,by rw[Av];exact E.ab [3,11,12,13],I.sub⟩
  rw[ag (by omega)]at Av;refine RN 2 E I λa E=>?_;exact⟨ps.length-(k+1),by omega,k+1,⟨rfl,by omega⟩,by rw[Av];exact E.ab [3,11,12,13],I.sub⟩
 refine RT 3 E I ?_;obtain rfl:k=ps.length:=by omega
 rw[k4];exact⟨rfl,(Room.close (n:=_) I rfl hp)⟩
theorem UN (I:U W w (Room q b ps::L)) :
   Calls prog 166 #[pt q] w λe w'=>e=.returned (.int .i64 ((ps.length-j5 ps:Nat):Int))∧U W w' (Room q b ps::L):=by
 have pM:=wq ps;have hp:=(Room.open I).1;refine EN func166 ntmps166 rfl rfl λa E=>?_;refine RN 6 E I λa E=>?_;replace E:=E.aP 4;refine aV 2 (λw0 w'=>w'.cell? ⟨q,0,none⟩=some (.slice (some ⟨b,0,none⟩) ps.length ps.length)) [6] [0,1,2,5,3003,4,1006,7,8] E I λa w E I hH=>?_;have hC:=hH.at w ((Room.open I).2.bz rfl);refine RH 4 E I hH hC λa E=>?_;refine QH E (λw hc=>ae E (hc)) hC λa E=>?_;refine RH 1 E I hH hC λa E=>?_;refine CL 0 E I (Jp I) λa w E I=>?_;replace hC:=hH.at w ((Room.open I).2.bz rfl);refine RH 2 E I hH hC λa E=>?_;refine RT 0 E I ?_;exact⟨by rw[show ((ps.length-j5 ps:Nat):Int)=(ps.length:Int)-(j5 ps:Int) from by omega],I⟩
end
end
section
def mf (es:Array MapEntry)(clock:Nat)(kvs:List (Int×Value)):Prop :=
 es.toList.map (λe=>(e.key,e.val))=kvs.map (λp=>(Value.int .i64 p.1,p.2))∧MapKept.Stamped es clock∧∀ p∈kvs,(Lit.int .i64 p.1).wf=true
def mp (b:Nat)(kvs:List (Int×Value)):SP:=λh=>∃ es clock,h b=some (.map es clock)∧mf es clock kvs
def ni:List (Int×Value)→Int→Nat→Option (Nat×Value)
 | [],_,_=>none
 | p::r,k,i=>if p.1=k then some (i,p.2) else ni r k (i+1)
theorem Jq {kvs:List (Int×Value)}{k:Int}(h:∀ p∈kvs,p.1≠k):∀ i,ni kvs k i=none:=by
 induction kvs with
 | nil=>intro i;rfl
 | cons p r ih =>
  intro i;rw[ni,ag (h p iJ)];exact ih (λq hq=>h q (gF _ hq)) _
theorem UO {kvs:List (Int×Value)}{k:Int}{v:Value}:∀ {j:Nat} (i:Nat),kvs[j]?=some (k,v)→(∀ j',j'<j→∀ p,kvs[j']?=some p→p.1≠k)→ni kvs k i=some (i+j,v):=by
 induction kvs with
 | nil=>intro j i h;simp at h
 | cons p r ih =>
  intro j i h hl;cases j with
  | zero=>simp at h;subst h;simp[ni]
  | succ j =>
   rw[ni,ag (hl 0 (by omega) p rfl),ih (i+1) (by simpa using h) (λj' hj q hq=>hl (j'+1) (by omega) q (by simpa using hq))];rw[show i+1+j=i+(j+1) from by omega]
theorem Jr (k:Int):∀ (es:List MapEntry) (kvs:List (Int×Value)) (i:Nat),es.map (λe=>(e.key,e.val))=kvs.map (λp=>(Value.int .i64 p.1,p.2))→Instr.findNow (.int .i64) (.int .i64 k) es i=some (ni kvs k i)
 | [],[],i,_=>rfl
 | [],_::_,_,h=>by simp at h
 | _::_,[],_,h=>by simp at h
 | e::es,p::kvs,i,h=>by
  simp only[map_cons,List.cons.injEq,Prod.mk.injEq]at h;obtain⟨⟨h1,h2⟩,h3⟩:=h;simp only[Instr.findNow,h1,Instr.sameNow,ni];by_cases hk:p.1=k
  ·simp[hk,h2]
  ·have:(k==p.1)=false:=by simp;exact λe=>hk e.symm
   simp only[this,ag hk];exact Jr k es kvs (i+1) h3
theorem ye {α β:Type}(f:α→β)(l:List α)(i:Nat):(l.eraseIdx i).map f=(l.map f).eraseIdx i:=by
 simp only[sZ,cW,map_take,map_drop]
section
variable {W w:World}{L:List SP}{b:Nat}{kvs:List (Int×Value)}
theorem U.Aw (I:U W w (mp b kvs::L)):∃ es clock,mf es clock kvs∧U W w (kW b (.map es clock)::L):=by
 obtain⟨⟨es,clock⟩,h1,h2⟩:=I.jM (ι:=Array MapEntry×Nat) (p:=λi=>mf i.1 i.2 kvs) (B:=λi=>kW b (.map i.1 i.2)) (λh ⟨es,clock,h1,h2⟩=>⟨(es,clock),h2,h1⟩);exact⟨es,clock,h1,h2⟩
theorem U.DS {es:Array MapEntry}{clock:Nat}(I:U W w (kW b (.map es clock)::L))(h:mf es clock kvs):U W w (mp b kvs::L) :=
 U.shut (M:=[_]) I (λ_ x=>by
  obtain⟨_,_,_,a,_,y,_⟩:=x;exact⟨es,clock,a _ _ y,h⟩)
theorem mf.nil:mf #[] 0 []:=⟨rfl,⟨by simp,by simp,by simp⟩,by simp⟩
theorem mf.push {es:Array MapEntry}{clock:Nat}{k:Int}{v:Value}(h:mf es clock kvs)(hw:(Lit.int .i64 k).wf=true)(hn:∀ p∈kvs,p.1≠k):mf (es.push ⟨.int .i64 k,v,clock⟩) (clock+1) (kvs++[(k,v)]):=by
 obtain⟨h1,⟨h2,h3,h4⟩,h5⟩:=h;refine⟨by simp[h1],⟨λx hx=>?_,?_,?_⟩,λp hp=>?_⟩
 ·simp only[Array.toList_push,eT,iK]at hx;rcases hx with hx | rfl
  ·have:=h2 x hx;omega
  ·exact Nat.lt_succ_self _
 ·simp only[Array.toList_push,cW,map_cons,map_nil];refine List.nodup_append.2 ⟨h3,by simp,λx hx y hy=>?_⟩;simp only[cR]at hx;obtain⟨e,he,rfl⟩:=hx;have:=h2 e he;simp at hy;omega
 ·simp only[Array.toList_push,cW,map_cons,map_nil];refine List.nodup_append.2 ⟨h4,by simp,λx hx y hy=>?_⟩;simp only[cR]at hx;obtain⟨e,he,rfl⟩:=hx;have hm:(e.key,e.val)∈es.toList.map (λe=>(e.key,e.val)):=cR.2 ⟨e,he,rfl⟩;rw[h1]at hm;obtain⟨p,hp,pN⟩:=cR.1 hm;simp only[Prod.mk.injEq]at pN;simp at hy;rw[hy,← pN.1];intro e2;simp at e2;exact hn p hp e2
 ·rcases eT.1 hp with h | h
  ·exact h5 p h
  ·simp at h;subst h;exact hw
theorem mf.erase {es:Array MapEntry}{clock:Nat}(h:mf es clock kvs)(i:Nat):mf (es.eraseIdxIfInBounds i) clock (kvs.eraseIdx i):=by
 obtain⟨h1,⟨h2,h3,h4⟩,h5⟩:=h;have ht:(es.eraseIdxIfInBounds i).toList=es.toList.eraseIdx i:=by simp[Array.toList_eraseIdxIfInBounds]
 have hm:∀ {β:Type} (f:MapEntry→β),(es.toList.eraseIdx i).map f=(es.toList.map f).eraseIdx i:=λf=>ye f _ i;refine⟨by rw[ht,hm,h1,ye],⟨λx hx=>h2 x (List.mem_of_mem_eraseIdx (ht ▸ hx)),?_,?_⟩,λp hp=>h5 p (List.mem_of_mem_eraseIdx hp)⟩
 ·rw[ht,hm];exact h3.sublist (List.eraseIdx_sublist _ _)
 ·rw[ht,hm];exact h4.sublist (List.eraseIdx_sublist _ _)
end
section
variable {P:Program}{ops:Array Oper}{Q:Exit→Act→World→Prop}{a:Act}{w w' W:World}{K:Act→World→Prop}{n d:Nat}{l:List (Nat×Value)}{v:Value}{L R:List SP}{kvs:List (Int×Value)}
class tc (L:List SP)(b:Nat)(kvs:outParam (List (Int×Value)))(R:outParam (List SP)):Prop where perm:L.Perm (mp b kvs::R)
instance tc.head {L b kvs}:tc (mp b kvs::L) b kvs L:=⟨lE _⟩
instance (priority:=low) tc.tail {A L b kvs R}[h:tc L b kvs R]:tc (A::L) b kvs (A::R):=⟨(kz A h.perm).trans (cZ _ _ _)⟩
theorem Jt {b:Nat}{es Ju:Array MapEntry}{c c':Nat}(h:w.heap[b]?=some (.map es c)):(setObj b (.map Ju c')).run P w=.ok () (ChangeMaps.setBlock w b (.map Ju c')):=by
 simp only[setObj,Sem.run,h];rfl
theorem UP {kt:TypeId}{em:Bool}{k:Int}(hk:P.underlying kt=some (.int .i64))(n:Nat):(Instr.checkKey em (n+1) kt (.int .i64 k)).run P w=.ok () w:=by
 simp only[Instr.checkKey,Sem.run_bind,eQ hk,Result.andThen_ok];rfl
theorem DT {kt:TypeId}{em:Bool}{k:Int}(hk:P.underlying kt=some (.int .i64)):(Instr.checkKey em 10000 kt (.int .i64 k)).run P w=.ok () w :=
 UP hk 9999
theorem DU {es:Array MapEntry}{clock:Nat}{kt:TypeId}{k:Int}(hk:P.underlying kt=some (.int .i64))(h:mf es clock kvs):(Instr.findKey kt (.int .i64 k) es.toList).run P w=.ok (ni kvs k 0) w:=by
 simp[Instr.findKey,eQ hk,Jr k es.toList kvs 0 h.1]
theorem UQ {t ty ps af g}(E:Fr a n l)(hw:Region.wanted ⟨some d,.makeMap t none,ty,ps,af,g⟩ (yielded ops a.tmps)=true)(I:U W w L)(hf:okB d n l=true)
   (h:∀ b a' w',Fr a' n ((d,.map (some b))::l)→U W w' (mp b []::L)→Old w w'→K a' w'):cJ P ops Q ⟨some d,.makeMap t none,ty,ps,af,g⟩ K a w:=by
 refine bw (v:=.map (some w.heap.size)) (w':=w.alloc (.map #[] 0)) E hw ?_ hf (λa' dh=>h _ _ _ dh (U.DS (I.alloc (.map #[] 0)) mf.nil) (Old.alloc _ _));simp[execOp,Instr.makeMap,newObj,Sem.run]
theorem Jx {x y b t kt td k z sz a2 dst ty ps af g}{R:List SP}(E:Fr a n l)(ht:P.underlying t=some (.map kt td))(hk:P.underlying kt=some (.int .i64))(hi:TI P td z sz a2)(I:U W w L)
   [ev:Ev l x (.map (some b))] [g3:Ev l y (.int .i64 k)] [pk:tc L b kvs R] (hv:((ni kvs k 0).map (·.2)).getD z=v) :
   (execOp a.eval ⟨dst,.lookup t x y false,ty,ps,af,g⟩).run P w=.ok (.value v) w:=by
 obtain⟨es,clock,h1,h2⟩:=(I.perm pk.perm).Aw;have hg:=MapKept.run_getObj_map (P:=P) h2.has.2;have h3:(Instr.lookup t (.map (some b)) (.int .i64 k) false).run P w=.ok v w:=by
  simp only[Instr.lookup,Sem.run_bind,eQ ht,Result.andThen_ok,hg];simp only[Sem.run_pure,Result.andThen_ok,DT hk,DU hk h1];cases hf:ni kvs k 0 with
  | none=>rw[hf]at hv;simp at hv;simp[uu hi,hv]
  | some p=>rw[hf]at hv;simp at hv;simp[hv]
 simp[execOp,ev.ev a n E,g3.ev a n E,h3]
theorem UR {x y u b t kt td k ty ps af g}{R:List SP}(E:Fr a n l)(hw:Region.wanted ⟨none,.mapUpdate t x y u,ty,ps,af,g⟩ (yielded ops a.tmps)=true)(I:U W w L)
   (ht:P.underlying t=some (.map kt td)) (hk:P.underlying kt=some (.int .i64)) [ev:Ev l x (.map (some b))] [g3:Ev l y (.int .i64 k)] [uw:Ev l u v] [pk:tc L b kvs R]
   (Ax:(Lit.int .i64 k).wf=true) (hn:∀ p∈kvs,p.1≠k)
   (h:∀ a' w',Fr a' n l→U W w' (mp b (kvs++[(k,v)])::R)→K a' w'):cJ P ops Q ⟨none,.mapUpdate t x y u,ty,ps,af,g⟩ K a w:=by
 obtain⟨es,clock,h1,h2⟩:=(I.perm pk.perm).Aw;have hg:=MapKept.run_getObj_map (P:=P) h2.has.2;have hb:b<w.heap.size:=(rq.1 h2.has.2).1;have h3:(Instr.mapUpdate t (.map (some b)) (.int .i64 k) v).run P w=.ok () (ChangeMaps.setBlock w b (.map (es.push ⟨.int .i64 k,v,clock⟩) (clock+1))):=by
  simp only[Instr.mapUpdate,Sem.run_bind,eQ ht,Result.andThen_ok,hg];simp only[Sem.run_pure,Result.andThen_ok,DT hk,DU hk h1,Jq hn];simp[Jt h2.has.2]
 have h4:=h2.ck (o':=.map (es.push ⟨.int .i64 k,v,clock⟩) (clock+1)) (w':=ChangeMaps.setBlock w b (.map (es.push ⟨.int .i64 k,v,clock⟩) (clock+1))) rfl rfl rfl rfl;refine De (w':=ChangeMaps.setBlock w b (.map (es.push ⟨.int .i64 k,v,clock⟩) (clock+1))) E hw ?_ (λa' dh=>h a' _ dh (h4.DS (h1.push Ax hn)));simp[execOp,ev.ev a n E,g3.ev a n E,uw.ev a n E,h3]
theorem US {x y b t kt td k i ty ps af g}{R:List SP}(E:Fr a n l)(hw:Region.wanted ⟨none,.call ⟨.builtin .delete,#[x,y],#[t,kt]⟩,ty,ps,af,g⟩ (yielded ops a.tmps)=true)(I:U W w L)
   (ht:P.underlying t=some (.map kt td)) (hk:P.underlying kt=some (.int .i64)) [ev:Ev l x (.map (some b))] [g3:Ev l y (.int .i64 k)] [pk:tc L b kvs R] (hi:ni kvs k 0=some (i,v))
   (h:∀ a' w',Fr a' n l→U W w' (mp b (kvs.eraseIdx i)::R)→K a' w'):cJ P ops Q ⟨none,.call ⟨.builtin .delete,#[x,y],#[t,kt]⟩,ty,ps,af,g⟩ K a w:=by
 obtain⟨es,clock,h1,h2⟩:=(I.perm pk.perm).Aw;have hg:=MapKept.run_getObj_map (P:=P) h2.has.2;have hb:b<w.heap.size:=(rq.1 h2.has.2).1;have h3:(Builtin.delete_ #[t,kt] ty #[.map (some b),.int .i64 k]).run P w=.ok (.tuple #[]) (ChangeMaps.setBlock w b (.map (es.eraseIdxIfInBounds i) clock)):=by
  simp only[Builtin.delete_,getElem?_toArray,List.getElem?_cons_zero,getElem?_cons_succ];simp only[Sem.run_bind,eQ ht,Result.andThen_ok,hg];simp only[Sem.run_pure,Result.andThen_ok,DT hk,DU hk h1,hi];simp[Jt h2.has.2]
 have h4:=h2.ck (o':=.map (es.eraseIdxIfInBounds i) clock) (w':=ChangeMaps.setBlock w b (.map (es.eraseIdxIfInBounds i) clock)) rfl rfl rfl rfl;refine Dd (v:=.tuple #[]) (w':=ChangeMaps.setBlock w b (.map (es.eraseIdxIfInBounds i) clock)) E hw ?_ (λa' dh=>h a' _ dh (h4.DS (h1.erase i)));simp[execOp,resolve,ev.ev a n E,g3.ev a n E,invoke,builtin,h3]
end
end
section
open Go.RowKit Go.Maps Go.Sort Go.Shelf
def Lay.Jy:Go.Shelf.Ren:=⟨fun | 7=>119 | 10=>164 | n=>n,fun | 23=>218 | 26=>166 | 3=>219 | 28=>216 | 0=>0 | 27=>215 | 33=>284 | 4=>4 | n=>n,fun | n=>n⟩
theorem Lay.Jz:Go.Proofs.SlLaysZI.n7 prog Lay.Jy:={
 mixed:=by kernel_rfl
 f7:=⟨f119.name,by decide,func119.trans (dd some (by kernel_rfl))⟩
 f10:=⟨f164.name,by decide,func164.trans (dd some (by kernel_rfl))⟩
 t0:=underlying0
 a0:=isAgg0
 z0:=sizeOf0
 v0:=zeroValue0
 t4:=underlying4
 a4:=isAgg4
 z4:=sizeOf4
 v4:=zeroValue4
 t23:=underlying218
 a23:=isAgg218
 z23:=sizeOf218
 v23:=zeroValue218
 t26:=underlying166
 a26:=isAgg166
 z26:=sizeOf166
 v26:=zeroValue166
 t27:=underlying215
 a27:=isAgg215
 z27:=sizeOf215
 v27:=zeroValue215
 t28:=underlying216
 a28:=isAgg216
 z28:=sizeOf216
 v28:=zeroValue216
 t33:=underlying284
 a33:=isAgg284
 z33:=sizeOf284
 v33:=zeroValue284 }
def Lay.JA:Go.Shelf.Ren:=⟨fun | 6=>118 | 8=>162 | 9=>163 | 11=>194 | 13=>196 | 12=>195 | 23=>226 | 24=>227 | 14=>217 | 15=>218 | 16=>219 | 17=>220 | 18=>221 | 19=>222 | 20=>223 | 21=>224 | 22=>225 | 25=>233 | 26=>234 | 27=>235 | 28=>236 | 29=>237 | 30=>238 | 31=>243 | n=>n,fun | 26=>166 | 28=>216 | 24=>160 | 0=>0 | 3=>3 | 37=>314 | 48=>100 | 50=>319 | 4=>4 | 40=>352 | 39=>351 | 45=>248 | 5=>5 | 9=>9 | 51=>366 | 55=>370 | 57=>375 | 58=>376 | 33=>284 | n=>n,fun | n=>n⟩
theorem Lay.UT:Go.Proofs.SlLaysZI.n6 prog Lay.JA:={
 mixed:=by kernel_rfl
 f6:=⟨f118.name,by decide,func118.trans (dd some (by kernel_rfl))⟩
 f8:=⟨f162.name,by decide,func162.trans (dd some (by kernel_rfl))⟩
 f11:=⟨f194.name,by decide,func194.trans (dd some (by kernel_rfl))⟩
 t0:=underlying0
 a0:=isAgg0
 z0:=sizeOf0
 v0:=zeroValue0
 t24:=underlying160
 a24:=isAgg160
 z24:=sizeOf160
 v24:=zeroValue160
 t26:=underlying166
 a26:=isAgg166
 z26:=sizeOf166
 v26:=zeroValue166
 t28:=underlying216
 a28:=isAgg216
 z28:=sizeOf216
 v28:=zeroValue216
 i26:=by kernel_rfl }
def Lay.UU:Go.Shelf.Ren:=⟨fun | 5=>163 | 8=>196 | 7=>195 | 19=>226 | 20=>227 | 10=>217 | 11=>218 | 12=>219 | 13=>220 | 14=>221 | 15=>222 | 16=>223 | 17=>224 | 18=>225 | 30=>233 | 31=>234 | 32=>235 | 33=>236 | 34=>237 | 35=>238 | 40=>243 | n=>n,fun | 23=>160 | 25=>166 | 3=>3 | 32=>314 | 22=>160 | 0=>0 | 44=>100 | 46=>319 | 4=>4 | 36=>352 | 35=>351 | 41=>248 | 5=>5 | 9=>9 | 53=>366 | 57=>370 | 63=>375 | 64=>376 | n=>n,fun | n=>n⟩
theorem Lay.JB:Go.Proofs.SlLaysM.n5 prog Lay.UU:={
 mixed:=by kernel_rfl
 f5:=⟨f163.name,by decide,func163.trans (dd some (by kernel_rfl))⟩
 f7:=⟨f195.name,by decide,func195.trans (dd some (by kernel_rfl))⟩
 f8:=func196.trans (dd some (by kernel_rfl))
 f10:=⟨f217.name,by decide,func217.trans (dd some (by kernel_rfl))⟩
 f11:=⟨f218.name,by decide,func218.trans (dd some (by kernel_rfl))⟩
 f12:=⟨f219.name,by decide,func219.trans (dd some (by kernel_rfl))⟩
 f13:=⟨f220.name,by decide,func220.trans (dd some (by kernel_rfl))⟩
 f14:=⟨f221.name,by decide,func221.trans (dd some (by kernel_rfl))⟩
 f15:=⟨f222.name,by decide,func222.trans (dd some (by kernel_rfl))⟩
 f16:=⟨f223.name,by decide,func223.trans (dd some (by kernel_rfl))⟩
 f17:=⟨f224.name,by decide,func224.trans (dd some (by kernel_rfl))⟩
 f18:=⟨f225.name,by decide,func225.trans (dd some (by kernel_rfl))⟩
 f19:=func226.trans (dd some (by kernel_rfl))
 f20:=func227.trans (dd some (by kernel_rfl))
 f30:=⟨f233.name,by decide,func233.trans (dd some (by kernel_rfl))⟩
 f31:=func234.trans (dd some (by kernel_rfl))
 f32:=func235.trans (dd some (by kernel_rfl))
 f33:=⟨f236.name,by decide,func236.trans (dd some (by kernel_rfl))⟩
 f34:=⟨f237.name,by decide,func237.trans (dd some (by kernel_rfl))⟩
 f35:=⟨f238.name,by decide,func238.trans (dd some (by kernel_rfl))⟩
 f40:=⟨f243.name,by decide,func243.trans (dd some (by kernel_rfl))⟩
 t0:=underlying0
 a0:=isAgg0
 z0:=sizeOf0
 v0:=zeroValue0
 t3:=underlying3
 a3:=isAgg3
 z3:=sizeOf3
 v3:=zeroValue3
 t4:=underlying4
 a4:=isAgg4
 z4:=sizeOf4
 v4:=zeroValue4
 t5:=underlying5
 a5:=isAgg5
 z5:=sizeOf5
 v5:=zeroValue5
 t9:=underlying9
 a9:=isAgg9
 z9:=sizeOf9
 v9:=zeroValue9
 t22:=underlying160
 a22:=isAgg160
 z22:=sizeOf160
 v22:=zeroValue160
 t23:=underlying160
 a23:=isAgg160
 z23:=sizeOf160
 v23:=zeroValue160
 t25:=underlying166
 a25:=isAgg166
 z25:=sizeOf166
 v25:=zeroValue166
 t32:=underlying314
 a32:=isAgg314
 z32:=sizeOf314
 v32:=zeroValue314
 t35:=underlying351
 a35:=isAgg351
 z35:=sizeOf351
 v35:=zeroValue351
 t36:=underlying352
 a36:=isAgg352
 z36:=sizeOf352
 v36:=zeroValue352
 t41:=underlying248
 a41:=isAgg248
 z41:=sizeOf248
 v41:=zeroValue248
 t44:=underlying100
 a44:=isAgg100
 z44:=sizeOf100
 v44:=zeroValue100
 t46:=underlying319
 a46:=isAgg319
 z46:=sizeOf319
 v46:=zeroValue319
 t53:=underlying366
 a53:=isAgg366
 z53:=sizeOf366
 v53:=zeroValue366
 t57:=underlying370
 a57:=isAgg370
 z57:=sizeOf370
 v57:=zeroValue370
 t63:=underlying375
 a63:=isAgg375
 z63:=sizeOf375
 v63:=zeroValue375
 t64:=underlying376
 a64:=isAgg376
 z64:=sizeOf376
 v64:=zeroValue376 }
theorem Lay.UW (m:Nat):AnyZI.SortsIn prog Lay.JA Fence.wide m :=
 ⟨λaa off cap ss W hH UX aH=>callsIn_wide.2 (AnyM.slices_Sort_int Lay.JB aa off cap ss W hH UX aH),
  λp cap W=>callsIn_wide.2 (AnyM.slices_Sort_int_none Lay.JB p cap W)⟩
def nV:Value→Option (DataW Unit×List MemPlace):=λ_=>some (.lit (.bool true),[])
theorem UY {es:Array MapEntry}{clock:Nat}{kvs:List (Int×Value)}(h:mf es clock kvs)(hl:kvs.length≤maxLen):WideElems.Fit prog 166 nV es clock:=by
 obtain⟨h1,h2,h3⟩:=h;have hlen:es.size=kvs.length:=by have:=dd List.length h1;simpa using this
 refine⟨by omega,h2,λx hx=>?_⟩;have hm:(x.key,x.val)∈es.toList.map (λe=>(e.key,e.val)):=cR.2 ⟨x,hx,rfl⟩;rw[h1]at hm;obtain⟨p,hp,pN⟩:=cR.1 hm;simp only[Prod.mk.injEq]at pN;refine⟨(.int .i64 p.1,.lit (.bool true)),?_⟩;simp[WideElems.rd,← pN.1,keyOf_int_mk underlying166 (h3 p hp),nV]
theorem mapKeys {es:Array MapEntry}{clock:Nat}{kvs:List (Int×Value)}(h:mf es clock kvs):(intKeys (DataW.map ((es.toList.map (WideElems.rg prog 166 nV)).foldr DataW.insert []))).Perm (kvs.map (·.1)):=by
 have hp:=WideShapes.sorted_perm (es.toList.map (WideElems.rg prog 166 nV));have h4:(es.toList.map (WideElems.rg prog 166 nV)).map (λp=>Go.intOf p.1)=kvs.map (·.1):=by
  obtain⟨h1,_,h3⟩:=h
  have : ∀ (l : List MapEntry) (m : List (Int × Value)), l.map (fun e => (e.key, e.val)) = m.map (fun p => (Value.int .i64 p.1, p.2)) → (∀ p ∈ m, (Lit.int .i64 p.1).wf = true) →
      (l.map (WideElems.rg prog 166 nV)).map (λp=>Go.intOf p.1)=m.map (·.1):=by
   intro l
   induction l with
   | nil=>intro m h _;cases m with
    | nil=>rfl
    | cons=>simp at h
   | cons e l ih =>
    intro m h hw;cases m with
    | nil=>simp at h
    | cons p m =>
     simp only[map_cons,List.cons.injEq,Prod.mk.injEq]at h;simp only[map_cons,ih m h.2 (λq hq=>hw q (gF _ hq))];have hr:WideElems.rg prog 166 nV e=(Lit.int .i64 p.1,(DataW.lit (.bool true):DataW Unit)):=by
      simp only[WideElems.rg,WideElems.rd,h.1.1,keyOf_int_mk underlying166 (hw p iJ),nV,Option.bind_some,Option.map_some,Option.getD_some]
     rw[hr];rfl
  exact this _ _ h1 h3
 have:=hp.map (λp:Lit×DataW Unit=>Go.intOf p.1);rw[h4]at this;exact this
section
variable {W w:World}{L:List SP}{m:Nat}{kvs:List (Int×Value)}
theorem UZ (I:U W w L):Calls prog 119 #[.map (some m)] w λe w' =>
   ∃ b,e=.returned (.func (.func 164) #[] #[pt b])∧U W w' (aa b 218 [.map (some m)]::L):=by
 have h:=AnyZI.keys_in Lay.Jz Fence.wide 5 trivial rfl (some m) w;refine (callsIn_wide.1 h).mono λe w' ⟨h1,h2⟩=>?_;subst h2;exact⟨_,h1,I.alloc _⟩
theorem U1 {ss ks:List Int}(hp:ss.Perm ks)(hk:ks.Pairwise (· < ·)):ss.mergeSort (λx y=>decide (x≤y))=ks:=by
 have h1:=List.pairwise_mergeSort (le:=λx y:Int=>decide (x≤y)) (λa b c h1 h2=>by simp at *;omega) (λa b=>by simp;omega) ss;refine List.Perm.eq_of_pairwise (le:=λx y:Int=>decide (x≤y)=true) (λa b _ _ h1 h2=>by simp at *;omega) h1 (hk.imp λh=>by simp;omega) ((List.mergeSort_perm _ _).trans hp)
theorem U.ownsRow {w':World}{e sz:Nat}{v:Value}{n:Nat}{xs:List Value}(I:U W w L)(hb:Below w.heap.size w w')(hr:w'.ownsRow w.heap.size e sz v n xs) :
   ∃ ad c,v=.slice ad n c∧U W w' (Sl e sz ad n c xs::L):=by
 obtain⟨Ay,h,p,q⟩:=I;have hB:Below W.heap.size W w':=Ay.trans ⟨hb.os,hb.tape,hb.output,hb.size,λk hk=>hb.block k (Ab hk Ay.size)⟩;have JC:∀ n o,h n=some o→W.heap.size≤n∧w'.heap[n]?=some o:=λn o ho=>by
  obtain⟨h1,h2⟩:=p n o ho;refine⟨h1,?_⟩;rw[hb.block n (rq.1 h2).1];exact h2
 have g2:U W w' L:=⟨hB,h,JC,q⟩;obtain⟨hl,hr⟩:=hr;rcases hr with ⟨rfl,hn⟩ | ⟨g,cap,cur,rfl,hg,hc,DV,_,aH,ht⟩
 ·subst hn;refine⟨none,0,rfl,?_⟩;obtain rfl:xs=[]:=gG (by rw[hl,Nat.zero_mul]);exact g2.bM _ _ _
 ·have Az : h g = none := by
   cases he:h g with
   | none=>rfl
   | some x =>
    have:=(rq.1 (p g x he).2).1;omega
  refine⟨some ⟨g,0,none⟩,cap,rfl,?_⟩;have h2:U W w' (aa g e ([]++xs++cur.toList.drop (n*sz))::L):=by
   refine⟨hB,λk=>if k=g then some (.cells cur e (0,0)) else h k,λk o ho=>?_,λk=>if k=g then some (.cells cur e (0,0)) else none,h,λk=>?_,λk o ho=>?_,λk o ho=>?_,?_,q⟩
   ·by_cases hk:k=g
    ·simp[hk]at ho;subst ho;subst hk;exact⟨fG Ay.size hg,hc⟩
    ·simp[hk]at ho;exact JC k o ho
   ·by_cases hk:k=g
    ·right;rw[hk];exact Az
    ·left;simp[hk]
   ·by_cases hk:k=g <;> simp[hk]at ho ⊢;exact ho
   ·by_cases hk:k=g
    ·rw[hk,Az]at ho;cases ho
    ·simp[hk,ho]
   ·have : ([] ++ xs ++ cur.toList.drop (n * sz)).toArray = cur := by
     rw[← ht];simp
    simp only[aa,kW,this,if_true]
  have hlen:xs.length+(cur.toList.drop (n*sz)).length=cap*sz:=by
   have:(cur.toList).length=cap*sz:=by simpa using aH
   rw[c7,this,hl];have:=oy sz DV;omega
  have h3:=U.iZ (pre:=[]) (cs:=xs) (n:=n) (c:=cap) (sz:=sz) h2 hl DV (by rw[Nat.sub_mul];omega);simpa using h3
theorem U6 {b:Nat}(I:U W w (aa b 218 [.map (some m)]::mp m kvs::L))(hk:(kvs.map (·.1)).Pairwise (· < ·))(hl:kvs.length≤1099511627776) :
   Calls prog 118 #[.func (.func 164) #[] #[pt b]] w λe w' =>
   ∃ ad c,e=.returned (.slice ad kvs.length c)∧U W w' (Sl 166 1 ad kvs.length c (kvs.map λp=>.int .i64 p.1)::mp m kvs::L):=by
 have dz:=I.tail;obtain⟨es,clock,hm,uI⟩:=dz.Aw;have U7:(1099511627776:Nat)≤maxLen:=by unfold maxLen;omega
 have aH:es.size=kvs.length:=by have:=dd List.length hm.1;simpa using this
 have hF:=UY hm (fG hl U7);have AA:w.ownsMap prog 166 nV m es.size (.map ((es.toList.map (WideElems.rg prog 166 nV)).foldr DataW.insert [])):=⟨es,clock,uI.has.2,hF,a7 _,rfl⟩;have hD:Maps.size (DataW.map ((es.toList.map (WideElems.rg prog 166 nV)).foldr DataW.insert []))≤kvs.length:=by rw[← aH];exact AA.size_le
 have mL:w.cell? ⟨b,0,none⟩=some (.map (some m)):=I.cell 0;have hb:b<w.heap.size:=World.block_lt_of_cell? _ _ mL;have U8:SeqGives Fence.wide 2 prog 164 #[pt b] encZ (λss=>ss.Perm (intKeys (DataW.map ((es.toList.map (WideElems.rg prog 166 nV)).foldr DataW.insert [])))) (Maps.size (DataW.map ((es.toList.map (WideElems.rg prog 166 nV)).foldr DataW.insert []))) w :=
  AnyZI.keys_gives (ρ:=Lay.Jy) { Lay.Jz with } Fence.wide _ trivial rfl (by omega) b m _ _ w hb mL AA
 have wu:=AnyZI.sorted_in Lay.UT Fence.wide 5 trivial trivial trivial trivial rfl (by omega) (Lay.UW _) (enters_of func163 (by kernel_rfl) rfl)
  164 #[pt b] trivial
  (enters_of func164 (by kernel_rfl) rfl) _ _ (by omega) (by omega) _ U8
 refine (callsIn_wide.1 wu).mono λe w' ⟨v,ss,h1,h2,h3,_,h5⟩=>?_;subst h1;have hp:=h2.trans (mapKeys hm);rw[U1 hp hk]at h3;have hlen:ss.length=kvs.length:=by have:=hp.length_eq;simpa using this
 rw[hlen]at h3;obtain⟨ad,c,rfl,h6⟩:=dz.ownsRow h5 h3;refine⟨ad,c,rfl,?_⟩;have h7:(kvs.map (·.1)).map encZ=kvs.map λp=>Value.int .i64 p.1:=by simp[encZ,Function.comp_def]
 rw[h7]at h6;exact h6
end
end
section
structure aC where
 id:Nat
 refs:Nat
 g:Nat→Int
 p:Nat→Nat
structure Sn where
 last:Nat
 room:Nat
 n:Nat
 ar:List aC
def aC.cells (x:aC):List Value:=ints .i64 4 (λk=>(x.p k:Int)+1)++[.int .i64 x.refs]
theorem aC.len (x:aC):x.cells.length=5:=by simp[aC.cells,dj]
instance {x:aC}:mH x.cells 5:=⟨x.len⟩
theorem aC.at {x:aC}{k:Nat}(h:k<4):x.cells[k]?=some (.int .i64 ((x.p k:Int)+1)):=by
 rw[aC.cells,mF (by rw[dj];exact h),fV _ h]
theorem aC.ref {x:aC}:x.cells[4]?=some (.int .i64 x.refs):=by simp[aC.cells,dj]
theorem aC.DX {x:aC}{r:Nat}:x.cells.set 4 (.int .i64 r)=aC.cells { x with refs:=r }:=by
 rw[aC.cells,uz _ _ (by rw[dj];exact a7 _),dj];rfl
theorem aC.Va {x:aC}{k f:Nat}(h:k<4)(g:Nat→Int):x.cells.set k (.int .i64 ((f:Int)+1))=aC.cells { x with p:=λj=>if j=k then f else x.p j,g:=g }:=by
 rw[aC.cells,sT _ _ (by rw[dj];exact h),ints_set,aC.cells]
 congr 1
 refine x7 λj _=>?_;by_cases hj:j=k <;> simp[hj]
def jf (x:aC)(p m:Nat):Nat:=(List.range m).countP λk=>decide (x.p k=p)
def hU (x:aC)(p:Nat):Nat:=jf x p 4
def cS (l:List aC)(p:Nat):Nat:=(l.map λx=>hU x p).sum
def Sn.used (A:Sn):Nat:=(List.range A.room).countP λp=>decide (0<cS A.ar p)
theorem AB (x:aC)(p:Nat):jf x p 0=0:=rfl
theorem k7 (x:aC)(p m:Nat):jf x p (m+1)=jf x p m+if x.p m=p then 1 else 0:=by
 rw[jf,range_succ,List.countP_append,List.countP_singleton,jf];by_cases h:x.p m=p <;> simp[h]
theorem uJ (x:aC)(p:Nat):hU x p=(if x.p 0=p then 1 else 0)+(if x.p 1=p then 1 else 0)+(if x.p 2=p then 1 else 0)+(if x.p 3=p then 1 else 0):=by
 rw[hU,k7,k7,k7,k7,AB,eG]
theorem te (x:aC)(p:Nat){m n:Nat}(h:m≤n):jf x p m≤jf x p n:=by
 induction n with
 | zero => obtain rfl : m = 0 := by omega
           exact a7 _
 | succ n ih =>
  rcases gR n m with h1 | h1
  ·obtain rfl:m=n+1:=by omega
   exact a7 _
  ·have:=ih h1;rw[k7];omega
theorem JD (x:aC)(p:Nat):hU x p≤4:=by have:=List.countP_le_length (p:=λk=>decide (x.p k=p)) (l:=List.range 4);simpa [hU,jf] using this
theorem tf {x:aC}{k:Nat}(h:k<4):0<hU x (x.p k):=by
 have h1:=te x (x.p k) (m:=k+1) (n:=4) (by omega);rw[k7,ak rfl]at h1;show 0<jf x (x.p k) 4;omega
theorem Vb {x:aC}{k k':Nat}(h:k<4)(h':k'<4)(hn:k≠k')(he:x.p k=x.p k'):2≤hU x (x.p k):=by
 rcases Nat.lt_or_gt_of_ne hn with hl | hl
 ·have h1:=te x (x.p k) (m:=k'+1) (n:=4) (by omega);have h2:=te x (x.p k) (m:=k+1) (n:=k') (by omega);rw[k7,ak he.symm]at h1;rw[k7,ak rfl]at h2;show 2≤jf x (x.p k) 4;omega
 ·have h1:=te x (x.p k) (m:=k+1) (n:=4) (by omega);have h2:=te x (x.p k) (m:=k'+1) (n:=k) (by omega);rw[k7,ak rfl]at h1;rw[k7,ak he.symm]at h2;show 2≤jf x (x.p k) 4;omega
theorem DY {x:aC}{p:Nat}(h:∀ k,k<4→x.p k≠p):hU x p=0:=by
 rw[uJ,ag (h 0 (by omega)),ag (h 1 (by omega)),ag (h 2 (by omega)),ag (h 3 (by omega))]
theorem JE {x:aC}{p:Nat}:0<hU x p ↔ ∃ k,k<4∧x.p k=p:=by
 constructor
 ·intro h;by_cases h0:∃ k,k<4∧x.p k=p
  ·exact h0
  ·rw[DY λk hk e=>h0 ⟨k,hk,e⟩]at h;omega
 ·rintro⟨k,hk,rfl⟩;exact tf hk
theorem JF {x y:aC}(h:∀ k,k<4→x.p k=y.p k)(p:Nat):hU x p=hU y p:=by
 rw[uJ,uJ,h 0 (by omega),h 1 (by omega),h 2 (by omega),h 3 (by omega)]
theorem DZ (p:Nat):cS [] p=0:=rfl
theorem tg (x:aC)(l:List aC)(p:Nat):cS (x::l) p=hU x p+cS l p:=by simp[cS]
theorem yf (l m:List aC)(p:Nat):cS (l++m) p=cS l p+cS m p:=by simp[cS]
theorem yg {l:List aC}{i:Nat}(h:i<l.length)(p:Nat):cS l p=hU l[i] p+cS (l.eraseIdx i) p:=by
 have h0:l=l.take i++l[i]::l.drop (i+1):=by rw[← kH h,j0]
 rw[sZ,yf]
 conv=>lhs;rw[h0,yf,tg]
 omega
theorem D0 {l:List aC}{i:Nat}(h:i<l.length)(x:aC)(p:Nat):cS (l.set i x) p+hU l[i] p=cS l p+hU x p:=by
 have h1:=yg h p;have h2:=yg (l:=l.set i x) (i:=i) (by simpa using h) p;rw[oH,eraseIdx_set_eq]at h2;omega
theorem uK {l:List aC}{x:aC}(h:x∈l)(p:Nat):hU x p≤cS l p:=by
 obtain⟨i,hi,rfl⟩:=List.mem_iff_getElem.1 h;have:=yg hi p;omega
theorem D1 (l:List aC)(p:Nat):cS l p≤4*l.length:=by
 induction l with
 | nil=>simp[cS]
 | cons x l ih=>rw[tg,eH];have:=JD x p;omega
structure Rel (A:Sn)(ps:List Pg):Prop where
 len:ps.length=A.room
 refs:∀ p q,ps[p]?=some q→q.refs=cS A.ar p
 pO:∀ x∈A.ar,∀ k,k<4→∃ q,ps[x.p k]?=some q∧∀ j,j<8→q.g j=x.g (8*k+j)
structure WF (A:Sn):Prop where
 room:A.room≤200
 bound:A.n<1099511627776
 last:A.last≤A.n
 many:A.ar.length≤A.n
 sorted:(A.ar.map (·.id)).Pairwise (· < ·)
 mM:∀ x∈A.ar,1≤x.id∧x.id≤A.last∧1≤x.refs∧x.refs≤A.n
theorem Rel.ok {A:Sn}{ps:List Pg}(h:Rel A ps)(hw:WF A):ps.length≤200∧∀ p∈ps,p.refs<4611686018427387904:=by
 refine⟨h.len ▸ hw.room,λq hq=>?_⟩;obtain⟨i,hi,rfl⟩:=List.mem_iff_getElem.1 hq;rw[h.refs i _ (aD hi)];have:=D1 A.ar i;have:=hw.many;have:=hw.bound;omega
theorem Rel.used {A:Sn}{ps:List Pg}(h:Rel A ps):j5 ps=A.used:=by
 have e:ps=(List.range ps.length).map (λi=>ps.getD i s8):=by
  apply ext_getElem (by simp);intro i h1 h2;simp[bm,aD h1]
 rw[j5,Sn.used,← h.len]
 conv=>lhs;rw[e]
 rw[List.countP_map];refine countP_congr λi hi=>?_;have dL:i<ps.length:=mem_range.1 hi;have:=h.refs i _ (aD dL);simp only[Function.comp,bm,aD dL,Option.getD_some,this]
theorem Rel.live {A:Sn}{ps:List Pg}(h:Rel A ps){x:aC}(hx:x∈A.ar){k:Nat}(hk:k<4):∃ h:x.p k<ps.length,0<ps[x.p k].refs∧∀ j,j<8→ps[x.p k].g j=x.g (8*k+j):=by
 obtain⟨q,h1,h2⟩:=h.pO x hx k hk;obtain⟨h3,h4⟩:=aY.1 h1;refine⟨h3,?_,λj hj=>by rw[h4];exact h2 j hj⟩;rw[h.refs _ _ (aD h3)];have:=uK hx (x.p k);have:=tf (x:=x) hk;omega
def hW (ps:List Pg)(x:aC)(m:Nat):List Pg:=ps.mapIdx λp q=>⟨q.g,q.refs+jf x p m⟩
def jy (ps:List Pg)(x:aC)(m:Nat):List Pg:=ps.mapIdx λp q=>⟨q.g,q.refs-jf x p m⟩
theorem Vc (ps:List Pg)(x:aC):hW ps x 0=ps:=by
 apply ext_getElem (by simp[hW]);intro i h1 h2;simp[hW,AB]
theorem Vd (ps:List Pg)(x:aC):jy ps x 0=ps:=by
 apply ext_getElem (by simp[jy]);intro i h1 h2;simp[jy,AB]
theorem yh (ps:List Pg)(x:aC)(m:Nat):(hW ps x m).length=ps.length:=by simp[hW]
theorem AD (ps:List Pg)(x:aC)(m:Nat):(jy ps x m).length=ps.length:=by simp[jy]
theorem yi {ps:List Pg}{x:aC}{m p:Nat}(h:p<(hW ps x m).length):(hW ps x m)[p]=⟨(ps[p]'(by rw[yh]at h;exact h)).g,(ps[p]'(by rw[yh]at h;exact h)).refs+jf x p m⟩:=by simp[hW]
theorem AE {ps:List Pg}{x:aC}{m p:Nat}(h:p<(jy ps x m).length):(jy ps x m)[p]=⟨(ps[p]'(by rw[AD]at h;exact h)).g,(ps[p]'(by rw[AD]at h;exact h)).refs-jf x p m⟩:=by simp[jy]
theorem Ve {ps:List Pg}{x:aC}{m:Nat}(h:x.p m<(hW ps x m).length):(hW ps x m).set (x.p m) ⟨(hW ps x m)[x.p m].g,(hW ps x m)[x.p m].refs+1⟩=hW ps x (m+1):=by
 apply ext_getElem (by simp[hW]);intro i h1 h2;rw[List.getElem_set,yi h2];by_cases hi:x.p m=i
 ·subst hi;rw[ak rfl,yi h,k7,ak rfl,Nat.add_assoc]
 ·rw[ag hi,yi (by simpa using h1),k7,ag hi];rfl
theorem Vf {ps:List Pg}{x:aC}{m:Nat}(h:x.p m<(jy ps x m).length):(jy ps x m).set (x.p m) ⟨(jy ps x m)[x.p m].g,(jy ps x m)[x.p m].refs-1⟩=jy ps x (m+1):=by
 apply ext_getElem (by simp[jy]);intro i h1 h2;rw[List.getElem_set,AE h2];by_cases hi:x.p m=i
 ·subst hi;rw[ak rfl,AE h,k7,ak rfl,Nat.sub_sub]
 ·rw[ag hi,AE (by simpa using h1),k7,ag hi];rfl
theorem JG (ps:List Pg)(x:aC)(m p:Nat):(hW ps x m)[p]?=ps[p]?.map λq=>⟨q.g,q.refs+jf x p m⟩:=by simp[hW]
theorem JH (ps:List Pg)(x:aC)(m p:Nat):(jy ps x m)[p]?=ps[p]?.map λq=>⟨q.g,q.refs-jf x p m⟩:=by simp[jy]
def Sn.add (A:Sn)(g:Nat→Int)(p:Nat→Nat):Sn:={ A with last:=A.last+1,n:=A.n+1,ar:=A.ar++[⟨A.last+1,1,g,p⟩] }
def Sn.drop (A:Sn)(i:Nat)(x:aC):Sn:={ A with ar:=if x.refs=1 then A.ar.eraseIdx i else A.ar.set i { x with refs:=x.refs-1 } }
def Sn.put (A:Sn)(i:Nat)(x:aC)(c:Nat)(v:Int):Sn:={ A with ar:=A.ar.set i { x with g:=ck x.g c v } }
def Sn.uL (A:Sn)(i:Nat)(x:aC)(c:Nat)(v:Int)(f:Nat):Sn:={ A with ar:=A.ar.set i { x with g:=ck x.g c v,p:=λj=>if j=c/8 then f else x.p j } }
theorem WF.add {A:Sn}(h:WF A)(hn:A.n+1<1099511627776)(g:Nat→Int)(p:Nat→Nat):WF (A.add g p):=by
 obtain⟨h1,h2,h3,h4,h5,h6⟩:=h;refine⟨h1,hn,by simp[Sn.add];omega,by simp[Sn.add];omega,?_,λx hx=>?_⟩
 ·simp only[Sn.add,cW,map_cons,map_nil];refine List.pairwise_append.2 ⟨h5,by simp,λa E b hb=>?_⟩;obtain⟨x,hx,rfl⟩:=cR.1 E;have:=(h6 x hx).2.1;simp at hb;omega
 ·simp only[Sn.add]at hx ⊢;rcases eT.1 hx with hx | hx
  ·have:=h6 x hx;omega
  ·simp at hx;subst hx;simp
theorem JI {l:List aC}{i:Nat}{x y:aC}(h:l[i]?=some x)(he:y.id=x.id):(l.set i y).map (·.id)=l.map (·.id):=by
 obtain⟨hi,rfl⟩:=aY.1 h;rw[jz,he];apply ext_getElem?;intro j;rw[jO];by_cases hj:i=j
 ·subst hj;simp[hi]
 ·rw[ag hj]
theorem WF.set {A:Sn}(h:WF A){n:Nat}(hn:n<1099511627776)(hle:A.n≤n){i:Nat}{x y:aC}(hx:A.ar[i]?=some x)(he:y.id=x.id)(hr:1≤y.refs∧y.refs≤n):WF { A with n:=n,ar:=A.ar.set i y }:=by
 obtain⟨h1,h2,h3,h4,h5,h6⟩:=h;have eI:=bF hx;refine⟨h1,hn,by simp only;omega,by simp only[bt];omega,by simp only;rw[JI hx he];exact h5,λz hz=>?_⟩;simp only at hz ⊢;rcases rK hz with hz | rfl
 ·have:=h6 z hz;omega
 ·have:=h6 x eI;rw[he];omega
theorem WF.erase {A:Sn}(h:WF A)(i:Nat):WF { A with ar:=A.ar.eraseIdx i }:=by
 obtain⟨h1,h2,h3,h4,h5,h6⟩:=h;refine⟨h1,h2,h3,?_,?_,λz hz=>h6 z (List.mem_of_mem_eraseIdx hz)⟩
 ·simp only;exact fG (List.length_eraseIdx_le _ _) h4
 ·simp only;rw[ye];exact h5.sublist (List.eraseIdx_sublist _ _)
theorem WF.ids {A:Sn}(h:WF A){i j:Nat}{x y:aC}(hx:A.ar[i]?=some x)(hy:A.ar[j]?=some y)(he:x.id=y.id):i=j:=by
 obtain⟨hi,rfl⟩:=aY.1 hx;obtain⟨hj,rfl⟩:=aY.1 hy;have hp:=List.pairwise_iff_getElem.1 h.sorted;rcases Nat.lt_trichotomy i j with hl | hl | hl
 ·have:=hp i j (by simpa using hi) (by simpa using hj) hl;simp at this;omega
 ·exact hl
 ·have:=hp j i (by simpa using hj) (by simpa using hi) hl;simp at this;omega
theorem Rel.add {A:Sn}{ps:List Pg}(h:Rel A ps){x:aC}(hx:x∈A.ar):Rel (A.add x.g x.p) (hW ps x 4):=by
 refine⟨by rw[yh];exact h.len,λp q hq=>?_,λy hy k hk=>?_⟩
 ·rw[JG]at hq;obtain⟨th,h1,rfl⟩:=rI.1 hq;have:=h.refs p th h1;simp only[Sn.add,yf,tg,DZ,this];rfl
 ·have h0 : ∀ y : aC, (∃ q, ps[y.p k]? = some q ∧ ∀ j, j < 8 → q.g j = y.g (8 * k + j)) → ∃ q, (hW ps x 4)[y.p k]? = some q ∧ ∀ j, j < 8 → q.g j = y.g (8 * k + j) := by
   rintro y ⟨q,h1,h2⟩;exact⟨⟨q.g,q.refs+jf x (y.p k) 4⟩,by rw[JG,h1];rfl,h2⟩
  simp only[Sn.add]at hy;rcases eT.1 hy with hy | hy
  ·exact h0 y (h.pO y hy k hk)
  ·simp at hy;subst hy;exact h0 ⟨A.last+1,1,x.g,x.p⟩ (h.pO x hx k hk)
theorem Rel.Vg {A:Sn}{ps:List Pg}(h:Rel A ps){n i:Nat}{x:aC}{r:Nat}(hx:A.ar[i]?=some x):Rel { A with n:=n,ar:=A.ar.set i { x with refs:=r } } ps:=by
 obtain⟨hi,rfl⟩:=aY.1 hx;refine⟨h.len,λp q hq=>?_,λy hy k hk=>?_⟩
 ·have:=D0 hi { A.ar[i] with refs:=r } p;have h2:hU { A.ar[i] with refs:=r } p=hU A.ar[i] p:=JF (λ_ _=>rfl) p;rw[h.refs p q hq];show cS A.ar p=cS (A.ar.set i { A.ar[i] with refs:=r }) p;omega
 ·simp only at hy;rcases rK hy with hy | rfl
  ·exact h.pO y hy k hk
  ·exact h.pO _ (jd hi) k hk
theorem Rel.erase {A:Sn}{ps:List Pg}(h:Rel A ps){i:Nat}{x:aC}(hx:A.ar[i]?=some x):Rel { A with ar:=A.ar.eraseIdx i } (jy ps x 4):=by
 obtain⟨hi,rfl⟩:=aY.1 hx;refine⟨by rw[AD];exact h.len,λp q hq=>?_,λy hy k hk=>?_⟩
 ·rw[JH]at hq;obtain⟨th,h1,rfl⟩:=rI.1 hq;have:=h.refs p th h1;have h2:=yg hi p;simp only[this,h2];show _-hU A.ar[i] p=_;omega
 ·obtain⟨q,h1,h2⟩:=h.pO y (List.mem_of_mem_eraseIdx hy) k hk;exact⟨⟨q.g,q.refs-jf A.ar[i] (y.p k) 4⟩,by rw[JH,h1];rfl,h2⟩
theorem alone {A:Sn}{i:Nat}{x:aC}(hx:A.ar[i]?=some x){k:Nat}(hk:k<4)(h1:cS A.ar (x.p k)≤1){j:Nat}{y:aC}(hy:A.ar[j]?=some y){k':Nat}(e0:k'<4)(he:y.p k'=x.p k):j=i∧k'=k:=by
 obtain⟨hi,rfl⟩:=aY.1 hx;have h2:=yg hi (A.ar[i].p k);have h3:=tf (x:=A.ar[i]) hk;have gU:j=i:=by
  rcases Nat.lt_trichotomy j i with hl | hl | hl
  ·have hm : y ∈ A.ar.eraseIdx i := by
    rw[List.mem_eraseIdx_iff_getElem?];exact⟨j,by omega,hy⟩
   have h4:=uK hm (A.ar[i].p k);rw[← he]at h4 h2 h3 h1;have:=tf (x:=y) e0;omega
  ·exact hl
  ·have hm : y ∈ A.ar.eraseIdx i := by
    rw[List.mem_eraseIdx_iff_getElem?];exact⟨j,by omega,hy⟩
   have h4:=uK hm (A.ar[i].p k);rw[← he]at h4 h2 h3 h1;have:=tf (x:=y) e0;omega
 refine⟨gU,?_⟩;subst gU;rw[aD hi]at hy;cases hy;by_cases j6:k'=k
 ·exact j6
 ·have:=Vb hk e0 (Ne.symm j6) he.symm;omega
theorem Rel.put {A:Sn}{ps:List Pg}(h:Rel A ps){i:Nat}{x:aC}(hx:A.ar[i]?=some x){c:Nat}(hc:c<32)(h1:cS A.ar (x.p (c/8))=1)(v:Int)(hl:x.p (c/8)<ps.length) :
   Rel (A.put i x c v) (ps.set (x.p (c/8)) ⟨λj=>if j=c%8 then v else ps[x.p (c/8)].g j,1⟩):=by
 have hi:=(aY.1 hx).1;have g4:=(aY.1 hx).2;have hk:c/8<4:=by omega
 have yj:∀ p,cS (A.put i x c v).ar p=cS A.ar p:=λp=>by
  have:=D0 hi { x with g:=ck x.g c v } p;have h2:hU { x with g:=ck x.g c v } p=hU A.ar[i] p:=by rw[g4];exact JF (λ_ _=>rfl) p
  simp only[Sn.put];omega
 refine⟨by rw[bt];exact h.len,λp q hq=>?_,λy hy k e0=>?_⟩
 ·rw[yj];rw[jO]at hq;by_cases hp:x.p (c/8)=p
  ·subst hp;rw[ak rfl,ak hl]at hq;cases hq;exact h1.symm
  ·rw[ag hp]at hq;exact h.refs p q hq
 ·simp only[Sn.put]at hy;obtain⟨j,hj⟩:=j7.1 hy;rw[jO]at hj;by_cases oK:i=j
  ·rw[ak oK,ak hi]at hj;cases hj;obtain⟨q,h2,h3⟩:=h.pO x (bF hx) k e0;by_cases rz:k=c/8
   ·subst rz;refine⟨⟨λj=>if j=c%8 then v else ps[x.p (c/8)].g j,1⟩,by simp[hl],λm hm=>?_⟩;rw[aD hl]at h2;cases h2;simp only[ck];by_cases kC:m=c%8
    ·rw[ak kC,ak (by omega)]
    ·rw[ag kC,ag (by omega)];exact h3 m hm
   ·have bD:x.p (c/8)≠x.p k:=λe=>rz (alone hx hk (by omega) hx e0 e.symm).2;refine⟨q,by simp only;rw[getElem?_set_ne bD];exact h2,λm hm=>?_⟩;simp only[ck];rw[ag (by omega)];exact h3 m hm
  ·rw[ag oK]at hj;obtain⟨q,h2,h3⟩:=h.pO y (bF hj) k e0;have bD:x.p (c/8)≠y.p k:=λe=>oK (alone hx hk (by omega) hj e0 e.symm).1.symm;exact⟨q,by rw[getElem?_set_ne bD];exact h2,h3⟩
theorem Rel.uL {A:Sn}{ps:List Pg}(h:Rel A ps){i:Nat}{x:aC}(hx:A.ar[i]?=some x){c f:Nat}(hc:c<32)(h1:1<cS A.ar (x.p (c/8)))(v:Int)(hl:x.p (c/8)<ps.length)(hf:f<ps.length)(h0:ps[f].refs=0) :
   Rel (A.uL i x c v f) ((ps.set (x.p (c/8)) ⟨ps[x.p (c/8)].g,ps[x.p (c/8)].refs-1⟩).set f ⟨λj=>if j=c%8 then v else ps[x.p (c/8)].g j,1⟩):=by
 have hi:=(aY.1 hx).1;have g4:=(aY.1 hx).2;have hk:c/8<4:=by omega
 have D2:cS A.ar f=0:=by rw[← h.refs f _ (aD hf)];exact h0
 have D3:∀ y∈A.ar,∀ k,k<4→y.p k≠f:=λy hy k e0 e=>by
  have h2:=uK hy f;rw[← e]at h2 D2;have:=tf (x:=y) e0;omega
 have eI:=bF hx;have AF:x.p (c/8)≠f:=D3 x eI _ hk;have JJ:∀ p,hU { x with g:=ck x.g c v,p:=λj=>if j=c/8 then f else x.p j } p+(if x.p (c/8)=p then 1 else 0)=hU x p+(if f=p then 1 else 0):=λp=>by
  rw[uJ,uJ];simp only;rcases (by omega:c/8=0∨c/8=1∨c/8=2∨c/8=3) with e | e | e | e <;> rw[e] <;> simp <;> omega
 refine⟨by rw[bt,bt];exact h.len,λp q hq=>?_,λy hy k e0=>?_⟩
 ·have h2:=D0 hi { x with g:=ck x.g c v,p:=λj=>if j=c/8 then f else x.p j } p;have h3:=JJ p;rw[g4]at h2;simp only[Sn.uL];by_cases hp:f=p
  ·subst hp;rw[getElem?_set_self (by rw[bt];exact hf)]at hq;cases hq;rw[ak rfl,ag AF]at h3;simp only;omega
  ·rw[getElem?_set_ne hp]at hq;rw[ag hp]at h3;by_cases im:x.p (c/8)=p
   ·subst im;rw[getElem?_set_self hl]at hq;cases hq;rw[ak rfl]at h3;have h4:=h.refs _ _ (aD hl);simp only;omega
   ·rw[getElem?_set_ne im]at hq;rw[ag im]at h3;have h4:=h.refs _ _ hq;omega
 ·simp only[Sn.uL]at hy;obtain⟨j,hj⟩:=j7.1 hy;rw[jO]at hj;have wv:∀ y:aC,(∃ q,ps[y.p k]?=some q∧∀ j,j<8→q.g j=y.g (8*k+j))→y.p k≠f→∃ q,((ps.set (x.p (c/8)) ⟨ps[x.p (c/8)].g,ps[x.p (c/8)].refs-1⟩).set f ⟨λj=>if j=c%8 then v else ps[x.p (c/8)].g j,1⟩)[y.p k]?=some q∧∀ j,j<8→q.g j=y.g (8*k+j):=by
   rintro y ⟨q,h2,h3⟩ hn;by_cases hp:x.p (c/8)=y.p k
   ·rw[← hp]at h2 ⊢;rw[aD hl]at h2;cases h2;refine⟨⟨ps[x.p (c/8)].g,ps[x.p (c/8)].refs-1⟩,?_,h3⟩;rw[getElem?_set_ne (Ne.symm AF),getElem?_set_self hl]
   ·exact⟨q,by rw[getElem?_set_ne (Ne.symm hn),getElem?_set_ne hp];exact h2,h3⟩
  by_cases oK:i=j
  ·rw[ak oK,ak hi]at hj;cases hj;obtain⟨q,h2,h3⟩:=h.pO x eI k e0;by_cases rz:k=c/8
   ·subst rz;refine⟨⟨λj=>if j=c%8 then v else ps[x.p (c/8)].g j,1⟩,by simp only[if_true];rw[getElem?_set_self (by rw[bt];exact hf)],λm hm=>?_⟩;rw[aD hl]at h2;cases h2;simp only[ck];by_cases kC:m=c%8
    ·rw[ak kC,ak (by omega)]
    ·rw[ag kC,ag (by omega)];exact h3 m hm
   ·obtain⟨q',h4,h5⟩:=wv x ⟨q,h2,h3⟩ (D3 x eI k e0);refine⟨q',by simp only[ag rz];exact h4,λm hm=>?_⟩;simp only[ck];rw[ag (by omega)];exact h5 m hm
  ·rw[ag oK]at hj;exact wv y (h.pO y (bF hj) k e0) (D3 y (bF hj) k e0)
end
section
def jg (x:aC×Nat):SP:=aa x.2 232 x.1.cells
def kvs (xs:List (aC×Nat)):List (Int×Value):=xs.map λx=>((x.1.id:Int),Value.pointer (some ⟨x.2,0,none⟩))
def ax (q r:Nat)(A:Sn):SP:=λh=>∃ b m ps xs,(xs.map (·.1)=A.ar∧WF A∧Rel A ps) ∧
 cm [aa q 221 [pt r,.map (some m),.int .i64 A.last],mp m (kvs xs),Room r b ps,ah jg xs] h
section
variable {W w:World}{L L' R:List SP}{q r b m i pb:Nat}{A:Sn}{ps:List Pg}{xs:List (aC×Nat)}{x y:aC}
theorem ax.open (I:U W w (ax q r A::L)):∃ b m ps xs,xs.map (·.1)=A.ar∧WF A∧Rel A ps ∧
   U W w (aa q 221 [pt r,.map (some m),.int .i64 A.last]::mp m (kvs xs)::Room r b ps::ah jg xs::L):=by
 obtain⟨⟨b,m,ps,xs⟩,⟨h1,h2,h3⟩,h4⟩:=I.jM (ι:=Nat×Nat×List Pg×List (aC×Nat)) (p:=λi=>i.2.2.2.map (·.1)=A.ar∧WF A∧Rel A i.2.2.1)
  (B:=λi h=>cm [aa q 221 [pt r,.map (some i.2.1),.int .i64 A.last],mp i.2.1 (kvs i.2.2.2),Room r i.1 i.2.2.1,ah jg i.2.2.2] h)
  (λh ⟨b,m,ps,xs,h1,h2⟩=>⟨(b,m,ps,xs),h1,h2⟩)
 exact⟨b,m,ps,xs,h1,h2,h3,h4.open λ_ h=>h⟩
theorem ax.close {last:Nat}(I:U W w L)[k:fI L (aa q 221 [pt r,.map (some m),.int .i64 last]::mp m (kvs xs)::Room r b ps::ah jg xs::L') R]
   (h1:xs.map (·.1)=A.ar) (h2:WF A) (h3:Rel A ps) (hl:A.last=last:=by rfl):U W w (ax q r A::L'):=by
 subst hl;exact U.shut (M:=[_,_,_,_]) (I.sub (M:=aa q 221 [pt r,.map (some m),.int .i64 A.last]::mp m (kvs xs)::Room r b ps::ah jg xs::L')) (λ_ x=>⟨b,m,ps,xs,⟨h1,h2,h3⟩,x⟩)
theorem qK (h1:xs.map (·.1)=A.ar)(hx:A.ar[i]?=some x):∃ pb,xs[i]?=some (x,pb):=by
 rw[← h1,bl]at hx;obtain⟨⟨y,pb⟩,h2,rfl⟩:=rI.1 hx;exact⟨pb,h2⟩
theorem U.rL (I:U W w L)(hx:xs[i]?=some (x,pb))[k:qy L (ah jg xs) R]:U W w (aa pb 232 x.cells::ah jg (xs.eraseIdx i)::R):=by
 obtain⟨hi,he⟩:=aY.1 hx;have:=(I.perm k.perm).fy hi;rw[he]at this;exact this
theorem Vh (hx:xs[i]?=some (x,pb))(he:y.id=x.id):kvs (xs.set i (y,pb))=kvs xs:=by
 have hi:=(aY.1 hx).1;apply ext_getElem?;intro j;simp only[kvs,bl,jO];by_cases hj:i=j
 ·subst hj;rw[ak rfl,ak hi,hx];simp[he]
 ·rw[ag hj]
theorem ax.uM {B:Sn}{last:Nat}(I:U W w L)[k:fI L (aa q 221 [pt r,.map (some m),.int .i64 last]::mp m (kvs xs)::Room r b ps::aa pb 232 y.cells::ah jg (xs.eraseIdx i)::L') R]
   (hx:xs[i]?=some (x,pb)) (h1:xs.map (·.1)=A.ar) (he:y.id=x.id) (hB:B.ar=A.ar.set i y) (h2:WF B) (h3:Rel B ps) (hl:B.last=last:=by rfl):U W w (ax q r B::L'):=by
 subst hl;obtain⟨hi,_⟩:=aY.1 hx;have h0:=I.sub (M:=aa q 221 [pt r,.map (some m),.int .i64 B.last]::mp m (kvs xs)::Room r b ps::aa pb 232 y.cells::ah jg (xs.eraseIdx i)::L');have h4:=h0.sub (M:=aa pb 232 y.cells::ah jg (xs.eraseIdx i)::aa q 221 [pt r,.map (some m),.int .i64 B.last]::mp m (kvs xs)::Room r b ps::L');have h5:=U.kZ (f:=jg) (x:=(y,pb)) hi h4;rw[← Vh (y:=y) hx he]at h5;exact ax.close (b:=b) (m:=m) (xs:=xs.set i (y,pb)) h5 (by rw[jz,h1,hB]) h2 h3
theorem yk (hx:A.ar[i]?=some x):A.ar=A.ar.set i x:=by
 obtain⟨hi,rfl⟩:=aY.1 hx;rw[mN]
theorem findAt (h1:xs.map (·.1)=A.ar)(hw:WF A)(hx:xs[i]?=some (x,pb)):ni (kvs xs) (x.id:Int) 0=some (i,pt pb):=by
 have hA:∀ (j:Nat) (z:aC×Nat),xs[j]?=some z→A.ar[j]?=some z.1:=λj z hz=>by rw[← h1,bl,hz];rfl
 have:=UO (kvs:=kvs xs) (k:=(x.id:Int)) (v:=pt pb) (j:=i) 0 (by rw[kvs,bl,hx];rfl) (λj hj p hp=>by
  rw[kvs,bl]at hp;obtain⟨z,hz,rfl⟩:=rI.1 hp;intro e;simp at e;have:=hw.ids (hA j z hz) (hA i _ hx) (Int.ofNat.inj e);omega)
 rwa [eG]at this
theorem qL {last:Nat}(I:U W w (aa q 221 [pt r,.map (some m),.int .i64 last]::mp m (kvs xs)::L))(h1:xs.map (·.1)=A.ar)(hw:WF A)(hx:xs[i]?=some (x,pb)) :
   Calls prog 120 #[pt q,.int .i64 x.id] w λe w'=>e=.returned (pt pb) ∧
    U W w' (aa q 221 [pt r,.map (some m),.int .i64 last]::mp m (kvs xs)::L):=by
 have hf:=findAt h1 hw hx;refine EN func120 ntmps120 rfl rfl λa E=>?_;refine RN 6 E I λa E=>?_;replace E:=E.aP 6;refine RN 7 E I λa E=>?_;refine SS E (Jx E underlying218 underlying166 Ty.t219 I (v:=pt pb) (by rw[hf];rfl)) λa E=>?_;refine RT 1 E I ?_;exact⟨rfl,I⟩
theorem JK {last:Nat}{X:Int}(I:U W w (aa q 221 [pt r,.map (some m),.int .i64 last]::mp m (kvs xs)::L))(h1:xs.map (·.1)=A.ar)(hn:∀ y∈A.ar,(y.id:Int)≠X) :
   Calls prog 120 #[pt q,.int .i64 X] w λe w'=>e=.returned (.pointer none) ∧
    U W w' (aa q 221 [pt r,.map (some m),.int .i64 last]::mp m (kvs xs)::L):=by
 have hf:ni (kvs xs) X 0=none:=Jq (λp hp=>by
  obtain⟨z,hz,rfl⟩:=cR.1 hp;exact hn z.1 (by rw[← h1];exact cR.2 ⟨z,hz,rfl⟩)) 0
 refine EN func120 ntmps120 rfl rfl λa E=>?_;refine RN 6 E I λa E=>?_;replace E:=E.aP 6;refine RN 7 E I λa E=>?_;refine SS E (Jx E underlying218 underlying166 Ty.t219 I (v:=.pointer none) (by rw[hf];rfl)) λa E=>?_;refine RT 1 E I ?_;exact⟨rfl,I⟩
theorem Vi (I:U W w (ax q r A::L))(hx:A.ar[i]?=some x) :
   Calls prog 214 #[pt q,.int .i64 x.id] w λe w'=>e=.returned (.int .i64 x.refs)∧U W w' (ax q r A::L):=by
 obtain⟨b,m,ps,xs,h1,hw,hr,I⟩:=ax.open I;obtain⟨pb,bd⟩:=qK h1 hx;refine EN func214 ntmps214 rfl rfl λa E=>?_;refine CL 5 E I (qL I h1 hw bd) λa w E I=>?_;refine RN 5 E I λa E=>?_;replace E:=E.aP 10;refine RN 2 E I λa E=>?_;replace I:=I.rL bd;refine RN 3 E I λa E=>?_;refine SS E (ae E (I.bz aC.ref)) λa E=>?_;refine RT 1 E I ?_;exact⟨rfl,ax.uM (b:=b) (m:=m) (ps:=ps) (pb:=pb) (y:=x) I bd h1 rfl (yk hx) hw hr⟩
theorem Vj {X:Int}(I:U W w (ax q r A::L))(hn:∀ y∈A.ar,(y.id:Int)≠X) :
   Calls prog 214 #[pt q,.int .i64 X] w λe w'=>e=.returned (.int .i64 0)∧U W w' (ax q r A::L):=by
 obtain⟨b,m,ps,xs,h1,hw,hr,I⟩:=ax.open I;refine EN func214 ntmps214 rfl rfl λa E=>?_;refine CL 5 E I (JK I h1 hn) λa w E I=>?_;refine RN 5 E I λa E=>?_;replace E:=E.ed 10;refine RT 3 E I ?_;exact⟨rfl,ax.close (b:=b) (m:=m) I h1 hw hr⟩
theorem AG {c:Nat}(h:c<4096):IntKind.i64.wrap ((c:Int).tdiv 8)=(c:Int).tdiv 8:=by
 rw[show (c:Int).tdiv 8=((c/8:Nat):Int) from rA c 8];exact fR (by omega) (by omega)
theorem JL {c:Nat}(I:U W w (ax q r A::L))(hx:A.ar[i]?=some x)(hc:c<32) :
   Calls prog 308 #[pt q,.int .i64 x.id,.int .i64 c] w λe w'=>e=.returned (.tuple #[.int .i32 (x.g c),.bool true])∧U W w' (ax q r A::L):=by
 obtain⟨b,m,ps,xs,h1,hw,hr,I⟩:=ax.open I;obtain⟨pb,bd⟩:=qK h1 hx;obtain⟨gH,im,ti⟩:=hr.live (bF hx) (k:=c/8) (by omega);refine EN func308 ntmps308 rfl rfl λa E=>?_;refine CL 6 E I (qL I h1 hw bd) λa w E I=>?_;refine RN 6 E I λa E=>?_;replace E:=E.aP 14;refine RN 4 E I λa E=>?_;rw[bo (by omega)]at E;refine RN 3 E I λa E=>?_;rw[bo (by omega)]at E;refine RN 2 E I λa E=>?_;replace I:=I.rL bd;refine bR 0 [10] [0,1,2,4,5,6,7,8,9,11,12,3003,1010,1013,14,15,16,17] E I λa w E I hH hC=>?_;refine RH 5 E I hH hC λa E=>?_;refine QP E (λw=>wi E (by decide) (AG (by omega))) λa E=>?_;rw[show (c:Int).tdiv 8=((c/8:Nat):Int) from rA c 8]at E;refine RH 4 E I hH hC λa E=>?_;refine QP E (λw=>Ak E (by decide)) λa E=>?_;rw[show (c:Int).tmod 8=((c%8:Nat):Int) from oG c 8]at E;refine RH 1 E I hH hC λa E=>?_;refine SS E (ae E (I.bz (aC.at (by omega)))) λa E=>?_;refine RH 0 E I hH hC λa E=>?_;refine CL 0 E I (UI (I.pick (Room r b ps)) gH im (Nat.mod_lt c (by decide))) λa w E I=>?_;refine RN 4 E I λa E=>?_;refine RT 0 E I ?_;exact⟨by rw[ti _ (Nat.mod_lt c (by decide)),show 8*(c/8)+c%8=c from by omega],ax.uM (b:=b) (m:=m) (ps:=ps) (pb:=pb) (y:=x) I bd h1 rfl (yk hx) hw hr⟩
theorem JM {A:Sn}(h1:xs.map (·.1)=A.ar)(hw:WF A):∀ p∈kvs xs,p.1≠((A.last+1:Nat):Int):=by
 intro p hp;obtain⟨z,hz,rfl⟩:=cR.1 hp;have:=(hw.mM z.1 (by rw[← h1];exact cR.2 ⟨z,hz,rfl⟩)).2.1;simp only;omega
theorem Vk {i:Int}(h1:-9223372036854775808≤i)(h2:i≤9223372036854775807):(Lit.int .i64 i).wf=true:=(Lit.wf_int_iff .i64 i).2 ⟨h1,h2⟩
theorem JN {last:Nat}(I:U W w (aa q 221 [pt r,.map (some m),.int .i64 last]::mp m (kvs xs)::L))(hl:last<1099511627776)(hn:∀ p∈kvs xs,p.1≠((last+1:Nat):Int)) :
   Calls prog 129 #[pt q,.agg (aC.cells x).toArray] w λe w'=>∃ pb,e=.returned (.int .i64 ((last+1:Nat):Int)) ∧
    U W w' (aa q 221 [pt r,.map (some m),.int .i64 ((last+1:Nat):Int)]::mp m (kvs xs++[(((last+1:Nat):Int),pt pb)])::aa pb 232 (aC.cells { x with refs:=1 })::L):=by
 refine EN func129 ntmps129 rfl rfl λa E=>?_;refine BX 1 E I λb3 a w E I=>?_;refine RN 7 E I λa E=>?_;rw[show ((last:Int)+1)=((last+1:Nat):Int) from rfl]at E;refine ST 2 E I (λa w E I=>?_);refine ST 2 E I (λa w E I=>?_) (hlt:=(by rw[aC.len];decide));rw[show (Value.int IntKind.i64 1)=.int .i64 ((1:Nat):Int) from rfl,aC.DX]at I;refine bR 1 [7] [0,1,2,4,5,6,3003,1007,1008] E I λa w E I hH hC=>?_;refine RH 8 E I hH hC λa E=>?_;refine UR E rfl I underlying218 underlying166 (Vk (by omega) (by omega)) hn λa w E I=>?_;refine RT 6 E I ?_;exact⟨b3,rfl,I.sub⟩
theorem U.D4 {e:Nat}(I:U W w L)(pb:Nat)[k:fH L pb e x.cells R]:Rd w pb 0 (ints .i64 4 (λk=>(x.p k:Int)+1)):=by
 have:=I.qv (b:=pb) (off:=0) (cs:=x.cells) 4 (sc:=mD.any)
 rwa [drop_zero,aC.cells,List.take_left' (dj _ _ _)]at this
theorem JO (I:U W w (ax q r A::L))(hx:A.ar[i]?=some x)(hb:A.n+1<1099511627776) :
   Calls prog 181 #[pt q,.int .i64 x.id] w λe w'=>e=.returned (.tuple #[.int .i64 ((A.last+1:Nat):Int),.bool true])∧U W w' (ax q r (A.add x.g x.p)::L):=by
 obtain⟨b,m,ps,xs,h1,hw,hr,I⟩:=ax.open I;obtain⟨pb,bd⟩:=qK h1 hx;have eI:=bF hx;have uN:=hw.last;have AH:=hr.add eI;have AI:=hw.add hb x.g x.p;have dr:=AH.ok AI;refine EN func181 ntmps181 rfl rfl λa E=>?_;refine CL 6 E I (qL I h1 hw bd) λa w E I=>?_;refine RN 5 E I λa E=>?_;replace E:=E.aP 13;refine RN 3 E I λa E=>?_;replace I:=I.rL bd;refine RN 3 E I λa E=>?_;refine SS E (bT E underlying230 rfl Ty.t230 (I.D4 pb)) λa E=>?_;refine RN 1 E I λa E=>?_;refine aN (λμ a w=>∃ k:Nat,(μ=4-k∧k≤4)∧Fr a 33 [(0,pt q),(6,pt pb),(17,.agg (ints .i64 4 (λk=>(x.p k:Int)+1)).toArray),(18,.int .i64 k)]∧U W w (Room r b (hW ps x k)::aa pb 232 x.cells::ah jg (xs.eraseIdx i)::aa q 221 [pt r,.map (some m),.int .i64 A.last]::mp m (kvs xs)::L)) (4) (⟨0,⟨by simp,by simp⟩,E.ab [0,6,17,18],by rw[Vc];exact I.sub⟩) ?_;clear E I;rintro μ a w ⟨k,⟨rfl,hk⟩,E,I⟩;have Vl:=yh ps x k;refine IF 3 E I (λao a E=>?_) λao a E=>?_
 ·
  refine RN 2 E I λa E=>?_;refine SS E (sX E underlying230 underlying3 rfl Ty.t3 (by omega) (fV _ (by omega))) λa E=>?_;refine RN 1 E I λa E=>?_;obtain⟨gH,im,ti⟩:=hr.live eI (k:=k) (by omega);have wx:x.p k<(hW ps x k).length:=by omega
  have D5:=Ve wx;have Vm:(hW ps x k)[x.p k].refs+1<4611686018427387904:=by
   have h3:=te x (x.p k) (m:=k+1) (n:=4) (by omega);have h4:=dr.2 _ (jd (show x.p k<(hW ps x 4).length by rw[yh];exact gH));rw[yi]at h4 ⊢;rw[k7,ak rfl]at h3;simp only at h4 ⊢;omega
  have D6:0<(hW ps x k)[x.p k].refs:=by rw[yi];simp only;omega
  refine CL 5 E I (UH (I.pick (Room r b (hW ps x k))) wx D6 Vm) λa w E I=>?_;rw[D5]at I;refine RN 2 E I λa E=>?_;exact⟨4-(k+1),by omega,k+1,⟨rfl,by omega⟩,E.ab [0,6,17,18],I.sub⟩
 obtain rfl:k=4:=by omega
 refine bh 5 E I (JN (q:=q) (r:=r) (m:=m) (last:=A.last) (L:=Room r b (hW ps x 4)::aa pb 232 x.cells::ah jg (xs.eraseIdx i)::L) I.sub (by have:=hw.bound;omega) (JM h1 hw)) λwy a w E I=>?_;refine RT 2 E I ?_;refine⟨rfl,?_⟩;have hi:=(aY.1 bd).1;have h5:=U.kZ (f:=jg) (x:=(x,pb)) hi (I.sub (M:=aa pb 232 x.cells::ah jg (xs.eraseIdx i)::aa wy 232 (aC.cells { x with refs:=1 })::aa q 221 [pt r,.map (some m),.int .i64 ((A.last+1:Nat):Int)]::mp m (kvs xs++[(((A.last+1:Nat):Int),pt wy)])::Room r b (hW ps x 4)::L));rw[show xs.set i (x,pb)=xs from by
  have:=aY.1 bd;rw[← this.2,mN]]at h5
 have h6:=U.j1 (f:=jg) (x:=(⟨A.last+1,1,x.g,x.p⟩,wy)) (h5.perm (cZ _ _ _));rw[show kvs xs++[(((A.last+1:Nat):Int),Value.pointer (some ⟨wy,0,none⟩))]=kvs (xs++[(⟨A.last+1,1,x.g,x.p⟩,wy)]) from by simp[kvs]]at h6;exact ax.close (last:=A.last+1) (b:=b) (m:=m) (xs:=xs++[(⟨A.last+1,1,x.g,x.p⟩,wy)]) h6 (by simp[Sn.add,h1]) AI AH
theorem Vn (I:U W w (ax q r A::L))(hx:A.ar[i]?=some x)(h2:x.refs≠1) :
   Calls prog 185 #[pt q,.int .i64 x.id] w λe w'=>e=.returned (.bool true)∧U W w' (ax q r (A.drop i x)::L):=by
 obtain⟨b,m,ps,xs,h1,hw,hr,I⟩:=ax.open I;obtain⟨pb,bd⟩:=qK h1 hx;have wz:=hw.mM x (bF hx);have hA:A.drop i x={ A with n:=A.n,ar:=A.ar.set i { x with refs:=x.refs-1 } }:=by rw[Sn.drop,ag h2]
 have nS:=hw.bound;refine EN func185 ntmps185 rfl rfl λa E=>?_;refine CL 5 E I (qL I h1 hw bd) λa w E I=>?_;refine RN 5 E I λa E=>?_;replace E:=E.aP 12;refine RN 3 E I λa E=>?_;replace I:=I.rL bd;refine RN 3 E I λa E=>?_;refine SS E (ae E (I.bz aC.ref)) λa E=>?_;refine ST 3 E I (λa w E I=>?_) (hlt:=(by rw[aC.len];decide));rw[show ((x.refs:Int)-1)=((x.refs-1:Nat):Int) from by omega,aC.DX]at I;refine RN 4 E I λa E=>?_;refine SS E (ae E (I.bz aC.ref)) λa E=>?_;refine RN 1 E I λa E=>?_;rw[dk (by simp;omega)]at E;refine RT 3 E I ?_;exact⟨rfl,ax.uM (last:=A.last) (b:=b) (m:=m) (ps:=ps) (pb:=pb) (y:={ x with refs:=x.refs-1 }) (B:=A.drop i x) I bd h1 rfl (by rw[hA]) (by rw[hA];exact hw.set nS (a7 _) hx rfl (by simp only;omega)) (by rw[hA];exact hr.Vg hx)⟩
theorem Vo (I:U W w (ax q r A::L))(hx:A.ar[i]?=some x)(h2:x.refs=1) :
   Calls prog 185 #[pt q,.int .i64 x.id] w λe w'=>e=.returned (.bool true)∧U W w' (ax q r (A.drop i x)::L):=by
 obtain⟨b,m,ps,xs,h1,hw,hr,I⟩:=ax.open I;obtain⟨pb,bd⟩:=qK h1 hx;have eI:=bF hx;have hA:A.drop i x={ A with ar:=A.ar.eraseIdx i }:=by rw[Sn.drop,ak h2]
 refine EN func185 ntmps185 rfl rfl λa E=>?_;refine CL 5 E I (qL I h1 hw bd) λa w E I=>?_;refine RN 5 E I λa E=>?_;replace E:=E.aP 12;refine RN 3 E I λa E=>?_;replace I:=I.rL bd;refine RN 3 E I λa E=>?_;refine SS E (ae E (I.bz aC.ref)) λa E=>?_;refine ST 3 E I (λa w E I=>?_) (hlt:=(by rw[aC.len];decide));rw[show ((x.refs:Int)-1)=((x.refs-1:Nat):Int) from by omega,aC.DX]at I;refine RN 4 E I λa E=>?_;refine SS E (ae E (I.bz aC.ref)) λa E=>?_;refine RN 1 E I λa E=>?_;rw[bo (by simp;omega)]at E;refine RN 6 E I λa E=>?_;refine SS E (bT E underlying230 rfl Ty.t230 (I.D4 (x:={ x with refs:=x.refs-1 }) pb)) λa E=>?_;refine RN 1 E I λa E=>?_;refine aN (λμ a w=>∃ k:Nat,(μ=4-k∧k≤4)∧Fr a 44 [(0,pt q),(1,.int .i64 x.id),(28,.agg (ints .i64 4 (λk=>(x.p k:Int)+1)).toArray),(29,.int .i64 k)]∧U W w (Room r b (jy ps x k)::ah jg (xs.eraseIdx i)::aa q 221 [pt r,.map (some m),.int .i64 A.last]::mp m (kvs xs)::L)) (4) (⟨0,⟨by simp,by simp⟩,E.ab [0,1,28,29],by rw[Vd];exact I.sub⟩) ?_;clear E I;rintro μ a w ⟨k,⟨rfl,hk⟩,E,I⟩;have Vl:=AD ps x k;refine IF 3 E I (λay a E=>?_) λay a E=>?_
 ·
  refine RN 2 E I λa E=>?_;refine SS E (sX E underlying230 underlying3 rfl Ty.t3 (by omega) (fV _ (by omega))) λa E=>?_;refine RN 1 E I λa E=>?_;obtain⟨gH,im,ti⟩:=hr.live eI (k:=k) (by omega);have wx:x.p k<(jy ps x k).length:=by omega
  have D5:=Vf wx;have D6:0<(jy ps x k)[x.p k].refs:=by
   have h3:=te x (x.p k) (m:=k+1) (n:=4) (by omega);have h4:=hr.refs _ _ (aD gH);have h5:jf x (x.p k) 4≤cS A.ar (x.p k):=uK eI (x.p k);rw[k7,ak rfl]at h3;rw[AE];simp only;omega
  refine CL 5 E I (Jn (I.pick (Room r b (jy ps x k))) wx D6) λa w E I=>?_;rw[D5]at I;refine RN 2 E I λa E=>?_;exact⟨4-(k+1),by omega,k+1,⟨rfl,by omega⟩,E.ab [0,1,28,29],I.sub⟩
 obtain rfl:k=4:=by omega
 refine RN 6 E I λa E=>?_;refine US E rfl I underlying218 underlying166 (findAt h1 hw bd) λa w E I=>?_;refine RT 2 E I ?_;have hk:(kvs xs).eraseIdx i=kvs (xs.eraseIdx i):=(ye _ _ _).symm;rw[hk]at I;exact⟨rfl,ax.close (last:=A.last) (b:=b) (m:=m) (ps:=jy ps x 4) (xs:=xs.eraseIdx i) I (by rw[hA,ye,h1]) (by rw[hA];exact hw.erase i) (by rw[hA];exact hr.erase hx) (by rw[hA])⟩
theorem Vp (I:U W w (ax q r A::L))(hx:A.ar[i]?=some x) :
   Calls prog 185 #[pt q,.int .i64 x.id] w λe w'=>e=.returned (.bool true)∧U W w' (ax q r (A.drop i x)::L):=by
 by_cases h:x.refs=1
 ·exact Vo I hx h
 ·exact Vn I hx h
theorem Vq {X:Int}(I:U W w (ax q r A::L))(hn:∀ y∈A.ar,(y.id:Int)≠X) :
   Calls prog 185 #[pt q,.int .i64 X] w λe w'=>e=.returned (.bool false)∧U W w' (ax q r A::L):=by
 obtain⟨b,m,ps,xs,h1,hw,hr,I⟩:=ax.open I;refine EN func185 ntmps185 rfl rfl λa E=>?_;refine CL 5 E I (JK I h1 hn) λa w E I=>?_;refine RN 5 E I λa E=>?_;replace E:=E.ed 12;refine RT 3 E I ?_;exact⟨rfl,ax.close (b:=b) (m:=m) I h1 hw hr⟩
theorem WF.put (hw:WF A)(hx:A.ar[i]?=some x){g:Nat→Int}{p:Nat→Nat}:WF { A with ar:=A.ar.set i { x with g:=g,p:=p } } :=
 hw.set (n:=A.n) (y:={ x with g:=g,p:=p }) hw.bound (a7 _) hx rfl (by have:=hw.mM x (bF hx);simp only;omega)
theorem Vr {c:Nat}{v:Int}(I:U W w (ax q r A::L))(hx:A.ar[i]?=some x)(hc:c<32)(h1:cS A.ar (x.p (c/8))=1) :
   Calls prog 346 #[pt q,.int .i64 x.id,.int .i64 c,.int .i32 v] w λe w'=>e=.returned (.bool true)∧U W w' (ax q r (A.put i x c v)::L):=by
 obtain⟨b,m,ps,xs,h2,hw,hr,I⟩:=ax.open I;obtain⟨pb,bd⟩:=qK h2 hx;obtain⟨gH,im,ti⟩:=hr.live (bF hx) (k:=c/8) (by omega);have wA:ps[x.p (c/8)].refs=1:=by rw[hr.refs _ _ (aD gH)];exact h1
 refine EN func346 ntmps346 rfl rfl λa E=>?_;refine CL 5 E I (qL I h2 hw bd) λa w E I=>?_;refine RN 6 E I λa E=>?_;replace E:=E.aP 18;refine RN 4 E I λa E=>?_;rw[bo (by omega)]at E;refine RN 3 E I λa E=>?_;rw[bo (by omega)]at E;refine RN 2 E I λa E=>?_;replace I:=I.rL bd;refine RN 2 E I λa E=>?_;refine SS E (wi E (by decide) (AG (by omega))) λa E=>?_;rw[show (c:Int).tdiv 8=((c/8:Nat):Int) from rA c 8]at E;refine bR 6 [6] [0,1,2,4,5,3003,1006,1007,8] E I λa w E I hH hC=>?_;refine RH 6 E I hH hC λa E=>?_;refine SS E (ae E (I.bz (aC.at (by omega)))) λa E=>?_;refine RH 0 E I hH hC λa E=>?_;refine CL 0 E I (As (I.pick (Room r b ps)) gH im) λa w E I=>?_;rw[wA]at E;refine RN 1 E I λa E=>?_;rw[bo (by omega)]at E;refine bR 2 [6] [0,1,2,4,5,7,8,9,3003,1006,1010,11] E I λa w E I hH hC=>?_;refine RH 6 E I hH hC λa E=>?_;refine QP E (λw=>Ak E (by decide)) λa E=>?_;rw[show (c:Int).tmod 8=((c%8:Nat):Int) from oG c 8]at E;refine RH 2 E I hH hC λa E=>?_;refine SS E (ae E (I.bz (aC.at (by omega)))) λa E=>?_;refine RH 0 E I hH hC λa E=>?_;refine CL 0 E I (DP (I.pick (Room r b ps)) gH wA (Nat.mod_lt c (by decide))) λa w E I=>?_;refine RN 1 E I λa E=>?_;refine RT 0 E I ?_;rw[show x.cells=aC.cells { x with g:=ck x.g c v } from rfl]at I;exact⟨rfl,ax.uM (B:=A.put i x c v) (last:=A.last) (b:=b) (m:=m) (pb:=pb) (y:={ x with g:=ck x.g c v }) (ps:=ps.set (x.p (c/8)) ⟨λj=>if j=c%8 then v else ps[x.p (c/8)].g j,1⟩) I bd h2 rfl rfl (hw.put hx) (hr.put hx hc h1 v gH)⟩
theorem JP {ps:List Pg}(h:Au ps):j5 ps=ps.length:=by
 rw[j5,List.countP_eq_length];intro p hp;obtain⟨i,hi,rfl⟩:=List.mem_iff_getElem.1 hp;have:=h i hi;simp;omega
theorem Vs {ps:List Pg}{f:Nat}(h:uH ps f):j5 ps<ps.length:=by
 obtain⟨hf,h0,_⟩:=h;have h1:=wq ps;rcases gR (j5 ps) ps.length with h2 | h2
 ·exact h2
 ·have:=(List.countP_eq_length (p:=λp:Pg=>decide (0<p.refs)) (l:=ps)).1 (D7 h1 h2) _ (jd hf);simp at this;omega
theorem Vt {c:Nat}{v:Int}(I:U W w (ax q r A::L))(hx:A.ar[i]?=some x)(hc:c<32)(h1:1<cS A.ar (x.p (c/8)))(hu:A.used<A.room) :
   Calls prog 346 #[pt q,.int .i64 x.id,.int .i64 c,.int .i32 v] w λe w'=>∃ f,e=.returned (.bool true)∧(f<A.room∧cS A.ar f=0)∧U W w' (ax q r (A.uL i x c v f)::L):=by
 obtain⟨b,m,ps,xs,h2,hw,hr,I⟩:=ax.open I;obtain⟨pb,bd⟩:=qK h2 hx;obtain⟨gH,im,ti⟩:=hr.live (bF hx) (k:=c/8) (by omega);have wA:ps[x.p (c/8)].refs=cS A.ar (x.p (c/8)):=hr.refs _ _ (aD gH);rcases DQ ps with bQ | ⟨f,hf⟩
 ·have:=JP bQ;rw[hr.used,hr.len]at this;omega
 have jv:=hf.1;have jN:=hf.2.1;have D2:cS A.ar f=0:=by rw[← hr.refs f _ (aD jv)];exact jN
 have bD:x.p (c/8)≠f:=by
  intro e;rw[e]at h1;omega
 have jA:x.p (c/8)<(ps.set f ⟨ps[x.p (c/8)].g,1⟩).length:=by rw[bt];exact gH
 have e1:(ps.set f ⟨ps[x.p (c/8)].g,1⟩)[x.p (c/8)]=ps[x.p (c/8)]:=List.getElem_set_ne (Ne.symm bD) _;have j8:f<((ps.set f ⟨ps[x.p (c/8)].g,1⟩).set (x.p (c/8)) ⟨ps[x.p (c/8)].g,ps[x.p (c/8)].refs-1⟩).length:=by rw[bt,bt];exact jv
 have e2:((ps.set f ⟨ps[x.p (c/8)].g,1⟩).set (x.p (c/8)) ⟨ps[x.p (c/8)].g,ps[x.p (c/8)].refs-1⟩)[f]=⟨ps[x.p (c/8)].g,1⟩:=by rw[List.getElem_set_ne bD,oH]
 have fz:((ps.set f ⟨ps[x.p (c/8)].g,1⟩).set (x.p (c/8)) ⟨ps[x.p (c/8)].g,ps[x.p (c/8)].refs-1⟩).set f ⟨λj=>if j=c%8 then v else ps[x.p (c/8)].g j,1⟩=(ps.set (x.p (c/8)) ⟨ps[x.p (c/8)].g,ps[x.p (c/8)].refs-1⟩).set f ⟨λj=>if j=c%8 then v else ps[x.p (c/8)].g j,1⟩:=by
  rw[List.set_comm _ _ (Ne.symm bD),set_set]
 refine EN func346 ntmps346 rfl rfl λa E=>?_;refine CL 5 E I (qL I h2 hw bd) λa w E I=>?_;refine RN 6 E I λa E=>?_;replace E:=E.aP 18;refine RN 4 E I λa E=>?_;rw[bo (by omega)]at E;refine RN 3 E I λa E=>?_;rw[bo (by omega)]at E;refine RN 2 E I λa E=>?_;replace I:=I.rL bd;refine RN 2 E I λa E=>?_;refine SS E (wi E (by decide) (AG (by omega))) λa E=>?_;rw[show (c:Int).tdiv 8=((c/8:Nat):Int) from rA c 8]at E;refine bR 6 [6] [0,1,2,4,5,3003,1006,1007,8] E I λa w E I hH hC=>?_;refine RH 6 E I hH hC λa E=>?_;refine SS E (ae E (I.bz (aC.at (by omega)))) λa E=>?_;refine RH 0 E I hH hC λa E=>?_;refine CL 0 E I (As (I.pick (Room r b ps)) gH im) λa w E I=>?_;refine RN 1 E I λa E=>?_;rw[dk (by omega)]at E;refine bR 2 [6] [0,1,2,4,5,3003,1006,1007,8,9,10,11,12] E I λa w E I hH hC=>?_;refine RH 6 E I hH hC λa E=>?_;refine SS E (ae E (I.bz (aC.at (by omega)))) λa E=>?_;refine RH 0 E I hH hC λa E=>?_;refine CL 0 E I (UL (I.pick (Room r b ps)) gH im hf) λa w E I=>?_;refine RN 5 E I λa E=>?_;refine RN 4 E I λa E=>?_;replace E:=E.aP 53;refine bR 2 [6] [0,1,2,4,5,3003,1006,1007] E I λa w E I hH hC=>?_;refine RH 6 E I hH hC λa E=>?_;refine SS E (ae E (I.bz (aC.at (by omega)))) λa E=>?_;refine RH 0 E I hH hC λa E=>?_;refine CL 0 E I (Jn (I.pick (Room r b (ps.set f ⟨ps[x.p (c/8)].g,1⟩))) jA (by rw[e1];exact im)) λa w E I=>?_;rw[e1]at I;refine ST 3 E I (λa w E I=>?_) (hlt:=(by rw[aC.len];omega));rw[aC.Va (by omega) (ck x.g c v)]at I;refine bR 1 [6] [0,1,2,4,5,7,8,9,3003,1006,1010,11] E I λa w E I hH hC=>?_;refine RH 6 E I hH hC λa E=>?_;refine QP E (λw=>Ak E (by decide)) λa E=>?_;rw[show (c:Int).tmod 8=((c%8:Nat):Int) from oG c 8]at E;refine RH 2 E I hH hC λa E=>?_;refine SS E (ae E (I.bz (aC.at (x:={ x with p:=λj=>if j=c/8 then f else x.p j,g:=ck x.g c v }) (by omega)))) λa E=>?_;simp only[if_true]at E;refine RH 0 E I hH hC λa E=>?_;refine CL 0 E I (DP (I.pick (Room r b ((ps.set f ⟨ps[x.p (c/8)].g,1⟩).set (x.p (c/8)) ⟨ps[x.p (c/8)].g,ps[x.p (c/8)].refs-1⟩))) j8 (by rw[e2]) (Nat.mod_lt c (by decide))) λa w E I=>?_;rw[e2,fz]at I;refine RN 1 E I λa E=>?_;refine RT 0 E I ?_;exact⟨f,rfl,⟨hr.len ▸ jv,D2⟩,ax.uM (B:=A.uL i x c v f) (last:=A.last) (b:=b) (m:=m) (pb:=pb) (y:={ x with p:=λj=>if j=c/8 then f else x.p j,g:=ck x.g c v }) I bd h2 rfl rfl (hw.put hx) (hr.uL hx hc h1 v gH jv jN)⟩
theorem Vu {c:Nat}{v:Int}(I:U W w (ax q r A::L))(hx:A.ar[i]?=some x)(hc:c<32)(h1:1<cS A.ar (x.p (c/8)))(hu:A.room≤A.used) :
   Calls prog 346 #[pt q,.int .i64 x.id,.int .i64 c,.int .i32 v] w λe w'=>e=.returned (.bool false)∧U W w' (ax q r A::L):=by
 obtain⟨b,m,ps,xs,h2,hw,hr,I⟩:=ax.open I;obtain⟨pb,bd⟩:=qK h2 hx;obtain⟨gH,im,ti⟩:=hr.live (bF hx) (k:=c/8) (by omega);have wA:ps[x.p (c/8)].refs=cS A.ar (x.p (c/8)):=hr.refs _ _ (aD gH);rcases DQ ps with bQ | ⟨f,hf⟩
 rotate_left
 ·have:=Vs hf;rw[hr.used,hr.len]at this;omega
 refine EN func346 ntmps346 rfl rfl λa E=>?_;refine CL 5 E I (qL I h2 hw bd) λa w E I=>?_;refine RN 6 E I λa E=>?_;replace E:=E.aP 18;refine RN 4 E I λa E=>?_;rw[bo (by omega)]at E;refine RN 3 E I λa E=>?_;rw[bo (by omega)]at E;refine RN 2 E I λa E=>?_;replace I:=I.rL bd;refine RN 2 E I λa E=>?_;refine SS E (wi E (by decide) (AG (by omega))) λa E=>?_;rw[show (c:Int).tdiv 8=((c/8:Nat):Int) from rA c 8]at E;refine bR 6 [6] [0,1,2,4,5,3003,1006,1007,8] E I λa w E I hH hC=>?_;refine RH 6 E I hH hC λa E=>?_;refine SS E (ae E (I.bz (aC.at (by omega)))) λa E=>?_;refine RH 0 E I hH hC λa E=>?_;refine CL 0 E I (As (I.pick (Room r b ps)) gH im) λa w E I=>?_;refine RN 1 E I λa E=>?_;rw[dk (by omega)]at E;refine bR 2 [6] [0,1,2,4,5,3003,1006,1007,8,9,10,11,12] E I λa w E I hH hC=>?_;refine RH 6 E I hH hC λa E=>?_;refine SS E (ae E (I.bz (aC.at (by omega)))) λa E=>?_;refine RH 0 E I hH hC λa E=>?_;refine CL 0 E I (UK (I.pick (Room r b ps)) gH im bQ) λa w E I=>?_;refine RN 5 E I λa E=>?_;refine RN 4 E I λa E=>?_;replace E:=E.ed 53;refine RT 3 E I ?_;exact⟨rfl,ax.uM (b:=b) (m:=m) (ps:=ps) (pb:=pb) (y:=x) I bd h2 rfl (yk hx) hw hr⟩
end
end
end Go.Proofs.YteoldcfapaiobaaGreat
