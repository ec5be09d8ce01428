/- The references' runes, titles, programs: the walks. -/
import Derived.Test.YtagpkhbkdbaigaaGreatRefP
import Derived.Test.YtagpkhbkdbaigaaGreatVm
namespace Go.Proofs.YtagpkhbkdbaigaaGreat
open Go.RowKit
set_option linter.unusedVariables false
set_option linter.unusedSimpArgs false
set_option maxRecDepth 10000
set_option synthInstance.maxSize 4000
set_option synthInstance.maxHeartbeats 400000
section
variable {W w : World} {L L' R : List SP} {s : ByteArray} {p : Pr} {adO : Option Addr} {cO : Nat}
theorem ext_zero (s : ByteArray) : s.extract 0 s.size=s:=by simp
theorem str_ne {s : ByteArray} (h : 0 < s.size) : (s.data.toList == (⟨#[]⟩ : ByteArray).data.toList)=false:=by
 rw [beq_eq_false_iff_ne]
 intro e
 have h2:=congrArg List.length e
 have h3 : s.data.toList.length=s.size:=Array.length_toList
 rw [h3] at h2
 have h4 : (⟨#[]⟩ : ByteArray).data.toList.length=0:=rfl
 omega
theorem index_byte {s : ByteArray} {j : Nat} (h : j < s.size) : (s[j]'h).toNat=byteN s j:=by rw [byteN,getB_in h]
theorem refDecode_spec (hs : St W w L) (h0 : 0 < s.size) : Calls Tryz.prog 134 #[.string s] w fun e w'=>e=.returned (.tuple #[.int .i32 (Utf8.decode s 0).1,.int .i64 (Utf8.decode s 0).2])∧St W w' L:=by
 obtain ⟨b,hb⟩ : ∃ b,byteN s 0=b:=⟨_,rfl⟩
 have hb2:=byteN_lt s 0
 rw [hb] at hb2
 refine calls_enter Tryz.func134 rfl Tryz.ntmps134 (Nat.le_of_ble_eq_true rfl) ?_
 intro a ha
 replace ha : Fr a 92 [(0,_)]:=ha
 refine WS<|WR ?_
 iterate 2 (refine S1 ha fun a ha=>?_)
 refine LN<|TN<|WS<|WS<|WR ?_
 refine S1 ha fun a ha=>?_
 refine SK (st_set ha rfl (ex_eqlS ha) rfl fun a ha=>?_)
 rw [str_ne h0] at ha
 refine LN<|TN<|WFa ha<|WK<|TN<|WS<|WR ?_
 refine S1 ha fun a ha=>?_
 refine SK (st_set ha rfl (ex_indexS ha Tryz.underlying9 (by omega)) rfl fun a ha=>?_)
 rw [index_byte h0,hb] at ha
 refine S1 ha fun a ha=>?_
 refine LN<|TN<|WS<|WR ?_
 iterate 3 (refine S1 ha fun a ha=>?_)
 refine LN<|TN ?_
 refine wp_seq_cut (M:=fun a w=>∃ n low r : Nat,decHead b n low r∧Fr a 92 [(0,.string s),(5,.int .i64 n),(6,.int .i32 low),(7,.int .i32 r)]∧St W w L) ?_ ?_
 ·
  refine wp_block<|WS<|WR ?_
  iterate 3 (refine S1 ha fun a ha=>?_)
  refine LN<|TN ?_
  refine WI ha (fun hc1=>?_) (fun hc1=>?_)
  ·
   refine WS<|WR ?_
   refine S1 ha fun a ha=>?_
   refine SK (st_set ha rfl (ex_convIIs ha Tryz.underlying5 Tryz.underlying21 (wrap32' (by omega) (by omega))) rfl fun a ha=>?_)
   iterate 2 (refine S1d ha fun a ha=>?_)
   refine LN<|TN<|wp_ret<|BR<|TR ?_
   refine ret2 ha rfl ?_
   exact ⟨by rw [dec_one hb (by omega)]; rfl,hs⟩
  ·
   refine WS<|WR ?_
   iterate 3 (refine S1 ha fun a ha=>?_)
   refine ha.by (s:=21) (fun hg2 ha=>?_) (fun hg2 ha=>?_)
   ·
    iterate 2 (refine S1g (s:=21) ha fun a ha=>?_)
    refine PT ha fun a ha=>?_
    refine S1 ha fun a ha=>?_
    refine LN<|TN ?_
    refine WI ha (fun hc2=>?_) (fun hc2=>?_)
    ·
     refine WR ?_
     refine S1 ha fun a ha=>?_
     refine SK (st_set ha rfl (ex_convIIs ha Tryz.underlying5 Tryz.underlying21 (wrap32' (by omega) (by omega))) rfl fun a ha=>?_)
     refine SK (st_set ha rfl (ex_sub ha) rfl fun a ha=>?_)
     obtain ⟨r,hr⟩ : ∃ r,b=192+r:=⟨b - 192,by omega⟩
     rw [show IntKind.i32.wrap ((b : Int) - 192)=(r : Nat) from by rw [wrap32' (by omega) (by omega)]; omega] at ha
     iterate 3 (refine S1d ha fun a ha=>?_)
     refine LN<|BN<|TN ?_
     exact ⟨2,128,r,.inl ⟨hr,by omega,rfl,rfl⟩,ha.keep [0,5,6,7],hs⟩
    ·
     refine WS<|WR ?_
     iterate 3 (refine S1 ha fun a ha=>?_)
     refine ha.by (s:=31) (fun hg2 ha=>?_) (fun hg2 ha=>?_)
     ·
      iterate 2 (refine S1g (s:=31) ha fun a ha=>?_)
      refine PT ha fun a ha=>?_
      refine S1 ha fun a ha=>?_
      refine LN<|TN ?_
      refine WI ha (fun hc3=>?_) (fun hc3=>?_)
      ·
       refine WR ?_
       refine S1 ha fun a ha=>?_
       refine SK (st_set ha rfl (ex_convIIs ha Tryz.underlying5 Tryz.underlying21 (wrap32' (by omega) (by omega))) rfl fun a ha=>?_)
       refine SK (st_set ha rfl (ex_sub ha) rfl fun a ha=>?_)
       obtain ⟨r,hr⟩ : ∃ r,b=224+r:=⟨b - 224,by omega⟩
       rw [show IntKind.i32.wrap ((b : Int) - 224)=(r : Nat) from by rw [wrap32' (by omega) (by omega)]; omega] at ha
       iterate 3 (refine S1d ha fun a ha=>?_)
       refine LN<|BN<|TN ?_
       exact ⟨3,2048,r,.inr (.inl ⟨hr,by omega,rfl,rfl⟩),ha.keep [0,5,6,7],hs⟩
      ·
       refine WS<|WR ?_
       iterate 3 (refine S1 ha fun a ha=>?_)
       refine ha.by (s:=41) (fun hg2 ha=>?_) (fun hg2 ha=>?_)
       ·
        iterate 2 (refine S1g (s:=41) ha fun a ha=>?_)
        refine PT ha fun a ha=>?_
        refine S1 ha fun a ha=>?_
        refine LN<|TN ?_
        refine WI ha (fun hc4=>?_) (fun hc4=>?_)
        ·
         refine WR ?_
         refine S1 ha fun a ha=>?_
         refine SK (st_set ha rfl (ex_convIIs ha Tryz.underlying5 Tryz.underlying21 (wrap32' (by omega) (by omega))) rfl fun a ha=>?_)
         refine SK (st_set ha rfl (ex_sub ha) rfl fun a ha=>?_)
         obtain ⟨r,hr⟩ : ∃ r,b=240+r:=⟨b - 240,by omega⟩
         rw [show IntKind.i32.wrap ((b : Int) - 240)=(r : Nat) from by rw [wrap32' (by omega) (by omega)]; omega] at ha
         iterate 3 (refine S1d ha fun a ha=>?_)
         refine LN<|BN<|TN ?_
         exact ⟨4,65536,r,.inr (.inr ⟨hr,by omega,rfl,rfl⟩),ha.keep [0,5,6,7],hs⟩
        ·
         refine WS<|WR ?_
         iterate 2 (refine S1d ha fun a ha=>?_)
         refine LN<|TN<|wp_ret<|BR<|TR ?_
         refine ret2 ha rfl ?_
         exact ⟨by rw [dec_none hb (by omega) (by omega)]; rfl,hs⟩
       ·
        iterate 2 (refine SO (s:=41) ha fun a ha=>?_)
        refine PF ha fun a ha=>?_
        refine S1 ha fun a ha=>?_
        refine LN<|TN<|WFa ha<|WS<|WR ?_
        iterate 2 (refine S1d ha fun a ha=>?_)
        refine LN<|TN<|wp_ret<|BR<|TR ?_
        refine ret2 ha rfl ?_
        exact ⟨by rw [dec_none hb (by omega) (by omega)]; rfl,hs⟩
     ·
      iterate 2 (refine SO (s:=31) ha fun a ha=>?_)
      refine PF ha fun a ha=>?_
      refine S1 ha fun a ha=>?_
      refine LN<|TN<|WFa ha<|WS<|WR ?_
      iterate 3 (refine S1 ha fun a ha=>?_)
      refine ha.by (s:=41) (fun hg2 ha=>?_) (fun hg2 ha=>?_)
      ·
       iterate 2 (refine S1g (s:=41) ha fun a ha=>?_)
       refine PT ha fun a ha=>?_
       refine S1 ha fun a ha=>?_
       refine LN<|TN ?_
       refine WI ha (fun hc4=>?_) (fun hc4=>?_)
       ·
        refine WR ?_
        refine S1 ha fun a ha=>?_
        refine SK (st_set ha rfl (ex_convIIs ha Tryz.underlying5 Tryz.underlying21 (wrap32' (by omega) (by omega))) rfl fun a ha=>?_)
        refine SK (st_set ha rfl (ex_sub ha) rfl fun a ha=>?_)
        obtain ⟨r,hr⟩ : ∃ r,b=240+r:=⟨b - 240,by omega⟩
        rw [show IntKind.i32.wrap ((b : Int) - 240)=(r : Nat) from by rw [wrap32' (by omega) (by omega)]; omega] at ha
        iterate 3 (refine S1d ha fun a ha=>?_)
        refine LN<|BN<|TN ?_
        exact ⟨4,65536,r,.inr (.inr ⟨hr,by omega,rfl,rfl⟩),ha.keep [0,5,6,7],hs⟩
       ·
        refine WS<|WR ?_
        iterate 2 (refine S1d ha fun a ha=>?_)
        refine LN<|TN<|wp_ret<|BR<|TR ?_
        refine ret2 ha rfl ?_
        exact ⟨by rw [dec_none hb (by omega) (by omega)]; rfl,hs⟩
      ·
       iterate 2 (refine SO (s:=41) ha fun a ha=>?_)
       refine PF ha fun a ha=>?_
       refine S1 ha fun a ha=>?_
       refine LN<|TN<|WFa ha<|WS<|WR ?_
       iterate 2 (refine S1d ha fun a ha=>?_)
       refine LN<|TN<|wp_ret<|BR<|TR ?_
       refine ret2 ha rfl ?_
       exact ⟨by rw [dec_none hb (by omega) (by omega)]; rfl,hs⟩
   ·
    iterate 2 (refine SO (s:=21) ha fun a ha=>?_)
    refine PF ha fun a ha=>?_
    refine S1 ha fun a ha=>?_
    refine LN<|TN<|WFa ha<|WS<|WR ?_
    iterate 3 (refine S1 ha fun a ha=>?_)
    refine ha.by (s:=31) (fun hg2 ha=>?_) (fun hg2 ha=>?_)
    ·
     iterate 2 (refine S1g (s:=31) ha fun a ha=>?_)
     refine PT ha fun a ha=>?_
     refine S1 ha fun a ha=>?_
     refine LN<|TN ?_
     refine WI ha (fun hc3=>?_) (fun hc3=>?_)
     ·
      refine WR ?_
      refine S1 ha fun a ha=>?_
      refine SK (st_set ha rfl (ex_convIIs ha Tryz.underlying5 Tryz.underlying21 (wrap32' (by omega) (by omega))) rfl fun a ha=>?_)
      refine SK (st_set ha rfl (ex_sub ha) rfl fun a ha=>?_)
      obtain ⟨r,hr⟩ : ∃ r,b=224+r:=⟨b - 224,by omega⟩
      rw [show IntKind.i32.wrap ((b : Int) - 224)=(r : Nat) from by rw [wrap32' (by omega) (by omega)]; omega] at ha
      iterate 3 (refine S1d ha fun a ha=>?_)
      refine LN<|BN<|TN ?_
      exact ⟨3,2048,r,.inr (.inl ⟨hr,by omega,rfl,rfl⟩),ha.keep [0,5,6,7],hs⟩
     ·
      refine WS<|WR ?_
      iterate 3 (refine S1 ha fun a ha=>?_)
      refine ha.by (s:=41) (fun hg2 ha=>?_) (fun hg2 ha=>?_)
      ·
       iterate 2 (refine S1g (s:=41) ha fun a ha=>?_)
       refine PT ha fun a ha=>?_
       refine S1 ha fun a ha=>?_
       refine LN<|TN ?_
       refine WI ha (fun hc4=>?_) (fun hc4=>?_)
       ·
        refine WR ?_
        refine S1 ha fun a ha=>?_
        refine SK (st_set ha rfl (ex_convIIs ha Tryz.underlying5 Tryz.underlying21 (wrap32' (by omega) (by omega))) rfl fun a ha=>?_)
        refine SK (st_set ha rfl (ex_sub ha) rfl fun a ha=>?_)
        obtain ⟨r,hr⟩ : ∃ r,b=240+r:=⟨b - 240,by omega⟩
        rw [show IntKind.i32.wrap ((b : Int) - 240)=(r : Nat) from by rw [wrap32' (by omega) (by omega)]; omega] at ha
        iterate 3 (refine S1d ha fun a ha=>?_)
        refine LN<|BN<|TN ?_
        exact ⟨4,65536,r,.inr (.inr ⟨hr,by omega,rfl,rfl⟩),ha.keep [0,5,6,7],hs⟩
       ·
        refine WS<|WR ?_
        iterate 2 (refine S1d ha fun a ha=>?_)
        refine LN<|TN<|wp_ret<|BR<|TR ?_
        refine ret2 ha rfl ?_
        exact ⟨by rw [dec_none hb (by omega) (by omega)]; rfl,hs⟩
      ·
       iterate 2 (refine SO (s:=41) ha fun a ha=>?_)
       refine PF ha fun a ha=>?_
       refine S1 ha fun a ha=>?_
       refine LN<|TN<|WFa ha<|WS<|WR ?_
       iterate 2 (refine S1d ha fun a ha=>?_)
       refine LN<|TN<|wp_ret<|BR<|TR ?_
       refine ret2 ha rfl ?_
       exact ⟨by rw [dec_none hb (by omega) (by omega)]; rfl,hs⟩
    ·
     iterate 2 (refine SO (s:=31) ha fun a ha=>?_)
     refine PF ha fun a ha=>?_
     refine S1 ha fun a ha=>?_
     refine LN<|TN<|WFa ha<|WS<|WR ?_
     iterate 3 (refine S1 ha fun a ha=>?_)
     refine ha.by (s:=41) (fun hg2 ha=>?_) (fun hg2 ha=>?_)
     ·
      iterate 2 (refine S1g (s:=41) ha fun a ha=>?_)
      refine PT ha fun a ha=>?_
      refine S1 ha fun a ha=>?_
      refine LN<|TN ?_
      refine WI ha (fun hc4=>?_) (fun hc4=>?_)
      ·
       refine WR ?_
       refine S1 ha fun a ha=>?_
       refine SK (st_set ha rfl (ex_convIIs ha Tryz.underlying5 Tryz.underlying21 (wrap32' (by omega) (by omega))) rfl fun a ha=>?_)
       refine SK (st_set ha rfl (ex_sub ha) rfl fun a ha=>?_)
       obtain ⟨r,hr⟩ : ∃ r,b=240+r:=⟨b - 240,by omega⟩
       rw [show IntKind.i32.wrap ((b : Int) - 240)=(r : Nat) from by rw [wrap32' (by omega) (by omega)]; omega] at ha
       iterate 3 (refine S1d ha fun a ha=>?_)
       refine LN<|BN<|TN ?_
       exact ⟨4,65536,r,.inr (.inr ⟨hr,by omega,rfl,rfl⟩),ha.keep [0,5,6,7],hs⟩
      ·
       refine WS<|WR ?_
       iterate 2 (refine S1d ha fun a ha=>?_)
       refine LN<|TN<|wp_ret<|BR<|TR ?_
       refine ret2 ha rfl ?_
       exact ⟨by rw [dec_none hb (by omega) (by omega)]; rfl,hs⟩
     ·
      iterate 2 (refine SO (s:=41) ha fun a ha=>?_)
      refine PF ha fun a ha=>?_
      refine S1 ha fun a ha=>?_
      refine LN<|TN<|WFa ha<|WS<|WR ?_
      iterate 2 (refine S1d ha fun a ha=>?_)
      refine LN<|TN<|wp_ret<|BR<|TR ?_
      refine ret2 ha rfl ?_
      exact ⟨by rw [dec_none hb (by omega) (by omega)]; rfl,hs⟩
 ·
  clear ha; (try clear hs)
  intro a w hcut
  obtain ⟨n,low,r,hd,ha,hs⟩:=hcut
  refine WS<|WS ?_
  have hn2 : 2≤n∧n≤4∧r < 32:=by rcases hd with h | h | h <;> omega
  refine WR ?_
  refine S1 ha fun a ha=>?_
  refine SK (st_set ha rfl (ex_lenS ha Tryz.underlying9) rfl fun a ha=>?_)
  iterate 2 (refine S1 ha fun a ha=>?_)
  refine LN<|TN ?_
  refine WI ha (fun hc5=>?_) (fun hc5=>?_)
  ·
   refine WS<|WR ?_
   iterate 2 (refine S1 ha fun a ha=>?_)
   refine LN<|TN<|wp_ret<|TR ?_
   refine ret2 ha rfl ?_
   exact ⟨by rw [dec_fail hb hd (.inl (by omega))]; rfl,hs⟩
  ·
   refine WK<|TN<|WS<|WS<|WR ?_
   refine S1 ha fun a ha=>?_
   refine LN<|TN<|wp_block ?_
   refine wp_loop_ghost (fun μ a w=>∃ (j : Nat),(μ=n - j∧j+1≤n∧∀ k,1≤k→k < j+1→byteN s k / 64=2)∧Fr a 92 [(0,.string s),(5,.int .i64 n),(6,.int .i32 low),(7,.int .i32 (contN s r j : Nat)),(8,.int .i64 ((j+1 : Nat) : Int))]∧St W w L) (n) ?_ ?_
   · exact ⟨0,⟨by simp,by omega,fun k h1 h2=>by omega⟩,ha.keep [0,5,6,7,8],hs⟩
   ·
    clear ha hs
    rintro μ a w ⟨j,⟨rfl,hj,hall⟩,ha,hs⟩
    refine WS<|WS<|WR ?_
    iterate 3 (refine S1 ha fun a ha=>?_)
    refine LN<|TN ?_
    refine WI ha (fun hc6=>?_) (fun hc6=>?_)
    ·
     refine WK<|TN<|WS<|wp_block<|WS<|WS ?_
     have hjs : j+1 < s.size:=by omega
     have hbj:=byteN_lt s (j+1)
     refine WR ?_
     iterate 2 (refine S1 ha fun a ha=>?_)
     refine SK (st_set ha rfl (ex_indexS ha Tryz.underlying9 (by omega)) rfl fun a ha=>?_)
     rw [index_byte hjs] at ha
     iterate 2 (refine S1 ha fun a ha=>?_)
     refine ha.by (s:=61) (fun hg4 ha=>?_) (fun hg4 ha=>?_)
     ·
      iterate 4 (refine SO (s:=61) ha fun a ha=>?_)
      refine PT ha fun a ha=>?_
      refine LN<|TN<|WTr ha<|WS<|WR ?_
      iterate 2 (refine S1 ha fun a ha=>?_)
      refine LN<|TN<|wp_ret<|TR<|BR<|TR<|TR<|BR<|TR ?_
      refine ret2 ha rfl ?_
      exact ⟨by rw [dec_fail hb hd (.inr ⟨j+1,by omega,by omega,by omega⟩)]; rfl,hs⟩
     ·
      iterate 2 (refine S1g (s:=61) ha fun a ha=>?_)
      refine SK (st_set ha (wgT ha rfl (s:=61)) (ex_indexS ha Tryz.underlying9 (by omega)) rfl fun a ha=>?_)
      rw [index_byte hjs] at ha
      refine S1g (s:=61) ha fun a ha=>?_
      refine PF ha fun a ha=>?_
      refine LN<|TN ?_
      refine WI ha (fun hc7=>?_) (fun hc7=>?_)
      ·
       refine WS<|WR ?_
       iterate 2 (refine S1 ha fun a ha=>?_)
       refine LN<|TN<|wp_ret<|TR<|BR<|TR<|TR<|BR<|TR ?_
       refine ret2 ha rfl ?_
       exact ⟨by rw [dec_fail hb hd (.inr ⟨j+1,by omega,by omega,by omega⟩)]; rfl,hs⟩
      ·
       refine WK<|TN ?_
       have hcl:=contN_lt (s:=s) hn2.2.2 j
       have hj2 : (64 : Nat) ^ j≤64 ^ 2:=Nat.pow_le_pow_right (by omega) (by omega)
       refine WR ?_
       refine S1 ha fun a ha=>?_
       refine SK (st_set ha rfl (ex_mul ha) rfl fun a ha=>?_)
       rw [wrap32' (by omega) (by omega)] at ha
       iterate 2 (refine S1 ha fun a ha=>?_)
       refine SK (st_set ha rfl (ex_indexS ha Tryz.underlying9 (by omega)) rfl fun a ha=>?_)
       rw [index_byte hjs] at ha
       refine SK (st_set ha rfl (ex_convIIs ha Tryz.underlying5 Tryz.underlying21 (wrap32' (by omega) (by omega))) rfl fun a ha=>?_)
       refine SK (st_set ha rfl (ex_add ha) rfl fun a ha=>?_)
       rw [wrap32' (by omega) (by omega)] at ha
       refine SK (st_set ha rfl (ex_sub ha) rfl fun a ha=>?_)
       rw [show IntKind.i32.wrap ((contN s r j : Nat)*64+(byteN s (j+1) : Nat) - 128 : Int)=(contN s r (j+1) : Nat) from by rw [wrap32' (by omega) (by omega),contN]; omega] at ha
       refine S1d ha fun a ha=>?_
       refine LN<|BN<|TN<|WR ?_
       refine S1 ha fun a ha=>?_
       refine SK (st_set ha rfl (ex_addI ha (by omega) (by omega)) rfl fun a ha=>?_)
       refine S1d ha fun a ha=>?_
       refine LN<|TN ?_
       refine ⟨n - (j+1),by omega,j+1,⟨rfl,by omega,fun k h1 h2=>?_⟩,ha.keep [0,5,6,7,8],hs⟩
       rcases Nat.lt_or_ge k (j+1) with h3 | h3
       · exact hall k h1 h3
       · obtain rfl : k=j+1:=by omega
         omega
    ·
     refine wp_exit<|TE<|TE<|blk_e<|TN<|WS<|WS ?_
     obtain rfl : n=j+1:=by omega
     have hda:=dec_all hb hd (by omega) hall
     simp only [badN,Nat.add_sub_cancel] at hda
     refine WR ?_
     iterate 4 (refine S1 ha fun a ha=>?_)
     refine ha.by (s:=78) (fun hg3 ha=>?_) (fun hg3 ha=>?_)
     ·
      iterate 2 (refine SO (s:=78) ha fun a ha=>?_)
      refine PT ha fun a ha=>?_
      refine S1 ha fun a ha=>?_
      iterate 2 (refine SO (s:=82) ha fun a ha=>?_)
      refine SK (st_offU ha (wgF ha rfl (s:=82) rfl) rfl fun a ha=>?_)
      iterate 2 (refine SK (st_off ha (wgU ha rfl (s:=85)) rfl fun a ha=>?_))
      refine SO (s:=82) ha fun a ha=>?_
      refine PT ha fun a ha=>?_
      refine LN<|TN<|WTr ha<|WS<|WR ?_
      iterate 2 (refine S1 ha fun a ha=>?_)
      refine LN<|TN<|wp_ret<|TR ?_
      refine ret2 ha rfl ?_
      exact ⟨by rw [hda.1 (by omega)]; rfl,hs⟩
     ·
      iterate 2 (refine S1g (s:=78) ha fun a ha=>?_)
      refine PF ha fun a ha=>?_
      refine S1 ha fun a ha=>?_
      refine ha.by (s:=82) (fun hg7 ha=>?_) (fun hg7 ha=>?_)
      ·
       iterate 2 (refine SO (s:=82) ha fun a ha=>?_)
       refine SK (st_offU ha (wgF ha rfl (s:=82) rfl) rfl fun a ha=>?_)
       iterate 2 (refine SK (st_off ha (wgU ha rfl (s:=85)) rfl fun a ha=>?_))
       refine SO (s:=82) ha fun a ha=>?_
       refine PT ha fun a ha=>?_
       refine LN<|TN<|WTr ha<|WS<|WR ?_
       iterate 2 (refine S1 ha fun a ha=>?_)
       refine LN<|TN<|wp_ret<|TR ?_
       refine ret2 ha rfl ?_
       exact ⟨by rw [hda.1 (by omega)]; rfl,hs⟩
      ·
       iterate 3 (refine S1g (s:=82) ha fun a ha=>?_)
       refine ha.by (s:=85) (fun hg10 ha=>?_) (fun hg10 ha=>?_)
       ·
        iterate 2 (refine S1g (s:=85) ha fun a ha=>?_)
        refine PTg (s:=82) ha fun a ha=>?_
        refine PF ha fun a ha=>?_
        refine LN<|TN ?_
        refine WI ha (fun hc8=>?_) (fun hc8=>?_)
        ·
         refine WS<|WR ?_
         iterate 2 (refine S1 ha fun a ha=>?_)
         refine LN<|TN<|wp_ret<|TR ?_
         refine ret2 ha rfl ?_
         exact ⟨by rw [hda.1 (by omega)]; rfl,hs⟩
        ·
         refine WK<|TN<|WS<|WR ?_
         iterate 4 (refine S1 ha fun a ha=>?_)
         refine LN<|TN<|wp_ret ?_
         refine ret2 ha rfl ?_
         exact ⟨by rw [hda.2 (by omega)],hs⟩
       ·
        iterate 2 (refine SO (s:=85) ha fun a ha=>?_)
        refine PFg (s:=82) ha fun a ha=>?_
        refine PF ha fun a ha=>?_
        refine LN<|TN<|WFa ha<|WK<|TN<|WS<|WR ?_
        iterate 4 (refine S1 ha fun a ha=>?_)
        refine LN<|TN<|wp_ret ?_
        refine ret2 ha rfl ?_
        exact ⟨by rw [hda.2 (by omega)],hs⟩
def RI (l : List (Nat × Nat)) : List Value:=l.map fun x=>.int .i32 x.1
theorem refRunes_spec (hs : St W w L) (hsz : s.size≤1000000000) : Calls Tryz.prog 96 #[.string s] w fun e w'=>∃ ad c,e=.returned (.tuple #[.slice ad (runesAt s 0).length c,.bool ((runesAt s 0).all goodB)]) ∧
   St W w' (Sl 21 1 ad (runesAt s 0).length c (RI (runesAt s 0))::L):=by
 refine calls_enter Tryz.func96 rfl Tryz.ntmps96 (Nat.le_of_ble_eq_true rfl) ?_
 intro a ha
 replace ha : Fr a 34 [(0,_)]:=ha
 refine WS<|WR ?_
 iterate 2 (refine S1 ha fun a ha=>?_)
 refine LN<|TN<|WS<|WR ?_
 refine S1 ha fun a ha=>?_
 refine LN<|TN<|WS ?_
 replace hs:=hs.sl0 21 1 none
 refine WR ?_
 refine S1 ha fun a ha=>?_
 refine LN<|TN<|WS<|wp_block ?_
 refine wp_loop_ghost (fun μ a w=>∃ (pos : Nat) (dn : List (Nat × Nat)) (ad : Option Addr) (c : Nat),(μ=s.size - pos∧pos≤s.size∧dn.length≤pos∧runesAt s 0=dn++runesAt s pos)∧Fr a 34 [(0,.string (s.extract pos s.size)),(4,.slice ad dn.length c),(5,.bool (dn.all goodB))]∧St W w (Sl 21 1 ad dn.length c (RI dn)::L)) (s.size) ?_ ?_
 · exact ⟨0,[],none,0,⟨by simp,by omega,by simp,rfl⟩,by rw [ext_zero]; exact ha.keep [0,4,5],hs⟩
 ·
  clear ha hs
  rintro μ a w ⟨pos,dn,ad,c,⟨rfl,hp,hdl,hdn⟩,ha,hs⟩
  refine WS<|WS<|WR ?_
  refine S1 ha fun a ha=>?_
  refine SK (st_set ha rfl (ex_lenS ha Tryz.underlying9) rfl fun a ha=>?_)
  rw [size_ext] at ha
  refine S1 ha fun a ha=>?_
  refine LN<|TN ?_
  refine WI ha (fun hc0=>?_) (fun hc0=>?_)
  ·
   have hps : pos < s.size:=by omega
   have hra:=runesAt_in hps
   have hdp:=decode_pos s pos
   have hdi:=decode_in s pos hps
   have hadv : adv s pos=pos+(Utf8.decode s pos).2:=by rw [adv,if_pos hps]
   refine WK<|TN<|wp_block<|WS<|WR ?_
   refine S1 ha fun a ha=>?_
   refine SK (st_call ha rfl Ty.c134 rfl (refDecode_spec hs (by rw [size_ext]; omega)) ?_); clear ha hs
   rintro e w ⟨rfl,hs⟩
   refine ⟨_,rfl,?_⟩
   intro a ha
   rw [decode_ext] at ha
   iterate 5 (refine S1 ha fun a ha=>?_)
   refine LN<|TN<|WS<|WR ?_
   iterate 2 (refine S1 ha fun a ha=>?_)
   refine SK (st_buildSlice ha rfl hs Tryz.underlying154 Ty.t21 rfl rfl rfl rfl (by decide) (by decide) fun b18 a w ha hs ho=>?_)
   clear ho
   refine SK (st_append ha rfl hs Tryz.underlying154 Ty.t21 rfl rfl hs.rdAll rfl (by simp [Value.oneCell']) (by decide) (by decide) (by omega) fun ad19 c19 a w ha hs=>?_)
   refine S1d ha fun a ha=>?_
   have hs5 : St W w (Sl 21 1 ad19 (dn++[Utf8.decode s pos]).length c19 (RI (dn++[Utf8.decode s pos]))::L):=by
     have e1 : (dn++[Utf8.decode s pos]).length=dn.length+1:=by simp
     have e2 : RI (dn++[Utf8.decode s pos])=RI dn++[.int .i32 (Utf8.decode s pos).1]:=by simp [RI]
     rw [e1,e2]
     change St W w (Sl 21 1 ad19 (dn.length+1) c19 (RI dn++[.int .i32 (Utf8.decode s pos).1])::_) at hs
     exact hs.sub
   replace hs:=hs5
   clear hs5
   refine LN<|TN<|WS ?_
   have hgd : (dn++[Utf8.decode s pos]).all goodB=(dn.all goodB && goodR (Utf8.decode s pos)):=by rw [goodR_eq]; simp
   simp only [goodR] at hgd
   refine WR ?_
   iterate 2 (refine S1 ha fun a ha=>?_)
   refine ha.by (s:=21) (fun hg1 ha=>?_) (fun hg1 ha=>?_)
   ·
    iterate 3 (refine S1g (s:=21) ha fun a ha=>?_)
    refine ha.by (s:=24) (fun hg4 ha=>?_) (fun hg4 ha=>?_)
    ·
     iterate 2 (refine SO (s:=24) ha fun a ha=>?_)
     refine PTg (s:=21) ha fun a ha=>?_
     refine PT ha fun a ha=>?_
     refine S1d ha fun a ha=>?_
     refine LN ?_
     rw [hg1,if_pos (by omega)] at hgd
     refine TN<|WR ?_
     iterate 2 (refine S1 ha fun a ha=>?_)
     refine SK (st_set ha rfl (ex_sliceSL ha Tryz.underlying9 (by rw [size_ext]; omega)) rfl fun a ha=>?_)
     rw [ext_ext,← hadv] at ha
     refine S1d ha fun a ha=>?_
     refine LN<|BN<|TN ?_
     have hdd : (dn++[Utf8.decode s pos]).length=dn.length+1:=by simp
     refine ⟨s.size - adv s pos,by omega,adv s pos,dn++[Utf8.decode s pos],_,_,⟨rfl,by omega,by omega,by rw [hdn,hra,List.append_assoc]; rfl⟩,?_,hs⟩
     rw [hdd,hgd]
     exact ha.keep [0,4,5]
    ·
     iterate 2 (refine S1g (s:=24) ha fun a ha=>?_)
     refine PFg (s:=21) ha fun a ha=>?_
     refine PT ha fun a ha=>?_
     refine S1d ha fun a ha=>?_
     refine LN ?_
     rw [hg1,if_neg (by omega),Bool.true_and,show decide ((Utf8.decode s pos).2=3)=decide (((Utf8.decode s pos).2 : Int)=3) from decide_eq_decide.2 (by omega)] at hgd
     refine TN<|WR ?_
     iterate 2 (refine S1 ha fun a ha=>?_)
     refine SK (st_set ha rfl (ex_sliceSL ha Tryz.underlying9 (by rw [size_ext]; omega)) rfl fun a ha=>?_)
     rw [ext_ext,← hadv] at ha
     refine S1d ha fun a ha=>?_
     refine LN<|BN<|TN ?_
     have hdd : (dn++[Utf8.decode s pos]).length=dn.length+1:=by simp
     refine ⟨s.size - adv s pos,by omega,adv s pos,dn++[Utf8.decode s pos],_,_,⟨rfl,by omega,by omega,by rw [hdn,hra,List.append_assoc]; rfl⟩,?_,hs⟩
     rw [hdd,hgd]
     exact ha.keep [0,4,5]
   ·
    iterate 2 (refine SO (s:=21) ha fun a ha=>?_)
    refine SK (st_offU ha (wgF ha rfl (s:=21) rfl) rfl fun a ha=>?_)
    iterate 2 (refine SK (st_off ha (wgU ha rfl (s:=24)) rfl fun a ha=>?_))
    refine SO (s:=21) ha fun a ha=>?_
    refine PF ha fun a ha=>?_
    refine S1d ha fun a ha=>?_
    refine LN ?_
    rw [hg1,Bool.false_and] at hgd
    refine TN<|WR ?_
    iterate 2 (refine S1 ha fun a ha=>?_)
    refine SK (st_set ha rfl (ex_sliceSL ha Tryz.underlying9 (by rw [size_ext]; omega)) rfl fun a ha=>?_)
    rw [ext_ext,← hadv] at ha
    refine S1d ha fun a ha=>?_
    refine LN<|BN<|TN ?_
    have hdd : (dn++[Utf8.decode s pos]).length=dn.length+1:=by simp
    refine ⟨s.size - adv s pos,by omega,adv s pos,dn++[Utf8.decode s pos],_,_,⟨rfl,by omega,by omega,by rw [hdn,hra,List.append_assoc]; rfl⟩,?_,hs⟩
    rw [hdd,hgd]
    exact ha.keep [0,4,5]
  ·
   refine wp_exit<|TE<|TE<|blk_e<|TN<|WS<|WR ?_
   iterate 4 (refine S1 ha fun a ha=>?_)
   refine LN<|TN<|wp_ret ?_
   refine ret2 ha rfl ?_
   obtain rfl : pos=s.size:=by omega
   have hre:=runesAt_out (s:=s) (pos:=s.size) (by omega)
   rw [hre,List.append_nil] at hdn
   rw [hdn]
   exact ⟨_,_,rfl,hs.sub⟩
theorem RI_at {l : List (Nat × Nat)} {i : Nat} {x : Nat × Nat} (h : l[i]?=some x) : (RI l)[i]?=some (.int .i32 x.1):=by rw [RI,List.getElem?_map,h]; rfl
theorem refTitle_spec (hs : St W w L) (hsz : s.size≤1000000000) : Calls Tryz.prog 136 #[.string s] w fun e w'=>e=.returned (.bool (tOk s))∧St W w' L:=by
 have htk : tOk s=(decide (1≤(runesAt s 0).length) && decide ((runesAt s 0).length≤20) && (runesAt s 0).all ctlB && (runesAt s 0).all goodB):=rfl
 have hrl:=runesAt_len s s.size 0 (by omega)
 refine calls_enter Tryz.func136 rfl Tryz.ntmps136 (Nat.le_of_ble_eq_true rfl) ?_
 intro a ha
 replace ha : Fr a 41 [(0,_)]:=ha
 refine WS<|WR ?_
 refine S1 ha fun a ha=>?_
 refine LN<|TN<|WS<|WR ?_
 refine S1 ha fun a ha=>?_
 refine SK (st_call ha rfl Ty.c96 rfl (refRunes_spec hs hsz) ?_); clear ha hs
 rintro e w ⟨ad,c,rfl,hs⟩
 refine ⟨_,rfl,?_⟩
 intro a ha
 generalize (runesAt s 0)=l at ha hs htk hrl
 iterate 5 (refine S1 ha fun a ha=>?_)
 refine LN<|TN<|WS<|WS<|WR ?_
 iterate 3 (refine S1 ha fun a ha=>?_)
 refine ha.by (s:=13) (fun hg2 ha=>?_) (fun hg2 ha=>?_)
 ·
  iterate 3 (refine SO (s:=13) ha fun a ha=>?_)
  refine PT ha fun a ha=>?_
  refine S1 ha fun a ha=>?_
  iterate 3 (refine SO (s:=18) ha fun a ha=>?_)
  refine PT ha fun a ha=>?_
  refine LN<|TN<|WTr ha<|WS<|WR ?_
  refine S1d ha fun a ha=>?_
  refine LN<|TN<|wp_ret<|TR ?_
  refine ret1 ha rfl ?_
  exact ⟨by rw [htk,hg2,Bool.and_false],hs.sub⟩
 ·
  iterate 3 (refine S1g (s:=13) ha fun a ha=>?_)
  refine PF ha fun a ha=>?_
  refine S1 ha fun a ha=>?_
  refine ha.by (s:=18) (fun hg7 ha=>?_) (fun hg7 ha=>?_)
  ·
   iterate 3 (refine SO (s:=18) ha fun a ha=>?_)
   refine PT ha fun a ha=>?_
   refine LN<|TN<|WTr ha<|WS<|WR ?_
   refine S1d ha fun a ha=>?_
   refine LN<|TN<|wp_ret<|TR ?_
   refine ret1 ha rfl ?_
   exact ⟨by rw [htk,decide_eq_false (by omega)]; simp,hs.sub⟩
  ·
   iterate 3 (refine S1g (s:=18) ha fun a ha=>?_)
   refine PF ha fun a ha=>?_
   refine LN<|TN ?_
   refine WI ha (fun hc0=>?_) (fun hc0=>?_)
   ·
    refine WS<|WR ?_
    refine S1d ha fun a ha=>?_
    refine LN<|TN<|wp_ret<|TR ?_
    refine ret1 ha rfl ?_
    exact ⟨by rw [htk,decide_eq_false (p:=l.length≤20) (by omega)]; simp,hs.sub⟩
   ·
    refine WK<|TN<|WS<|WS<|WR ?_
    refine S1 ha fun a ha=>?_
    refine LN<|TN<|wp_block ?_
    refine wp_loop_ghost (fun μ a w=>∃ i : Nat,(μ=l.length - i∧i≤l.length∧∀ j x,j < i→l[j]?=some x→ctlB x=true)∧Fr a 41 [(3,.slice ad l.length c),(5,.int .i64 i)]∧St W w (Sl 21 1 ad l.length c (RI l)::L)) (l.length) ?_ ?_
    · exact ⟨0,⟨by simp,by simp,fun j x h=>absurd h (by omega)⟩,ha.keep [3,5],hs⟩
    ·
     clear ha hs
     rintro μ a w ⟨i,⟨rfl,hi,hin⟩,ha,hs⟩
     refine WS<|WS<|WR ?_
     iterate 4 (refine S1 ha fun a ha=>?_)
     refine LN<|TN ?_
     refine WI ha (fun hc1=>?_) (fun hc1=>?_)
     ·
      obtain ⟨b,o,rfl,hrd⟩:=hs.slRd ad (by omega)
      obtain ⟨x,hx⟩ : ∃ x,l[i]?=some x:=⟨_,List.getElem?_eq_getElem (by omega)⟩
      have hcell:=hrd i _ (RI_at hx)
      refine WK<|TN<|WS<|wp_block<|WS<|WR ?_
      iterate 2 (refine S1 ha fun a ha=>?_)
      refine SK (st_set ha rfl (ex_indexAddr ha Tryz.underlying154 Ty.t21 (by omega)) rfl fun a ha=>?_)
      rw [Nat.mul_one] at ha
      refine SL ha (hcell) fun a ha=>?_
      iterate 2 (refine S1 ha fun a ha=>?_)
      refine ha.by (s:=34) (fun hg5 ha=>?_) (fun hg5 ha=>?_)
      ·
       iterate 5 (refine SO (s:=34) ha fun a ha=>?_)
       refine PT ha fun a ha=>?_
       refine LN<|TN<|WTr ha<|WS<|WR ?_
       refine S1 ha fun a ha=>?_
       refine LN<|TN<|wp_ret<|BR<|TR<|TR<|BR<|TR ?_
       refine ret1 ha rfl ?_
       refine ⟨?_,hs.sub⟩
       have hcx : ctlB x=false:=by
         simp only [ctlB,Bool.and_eq_false_iff,decide_eq_false_iff_not]; omega
       have hall : l.all ctlB=false:=by rw [List.all_eq_false]; exact ⟨x,List.mem_of_getElem? hx,by rw [hcx]; decide⟩
       rw [htk,hall]; simp
      ·
       iterate 2 (refine S1g (s:=34) ha fun a ha=>?_)
       refine SK (st_set ha (wgT ha rfl (s:=34)) (ex_indexAddr ha Tryz.underlying154 Ty.t21 (by omega)) rfl fun a ha=>?_)
       rw [Nat.mul_one] at ha
       refine SLg (s:=34) ha (hcell) fun a ha=>?_
       refine S1g (s:=34) ha fun a ha=>?_
       refine PF ha fun a ha=>?_
       refine LN<|TN ?_
       refine WI ha (fun hc2=>?_) (fun hc2=>?_)
       ·
        refine WS<|WR ?_
        refine S1 ha fun a ha=>?_
        refine LN<|TN<|wp_ret<|BR<|TR<|TR<|BR<|TR ?_
        refine ret1 ha rfl ?_
        refine ⟨?_,hs.sub⟩
        have hcx : ctlB x=false:=by
          simp only [ctlB,Bool.and_eq_false_iff,decide_eq_false_iff_not]; omega
        have hall : l.all ctlB=false:=by rw [List.all_eq_false]; exact ⟨x,List.mem_of_getElem? hx,by rw [hcx]; decide⟩
        rw [htk,hall]; simp
       ·
        refine WK<|BN<|TN<|WR ?_
        refine S1 ha fun a ha=>?_
        refine SK (st_set ha rfl (ex_addI ha (by omega) (by omega)) rfl fun a ha=>?_)
        refine S1d ha fun a ha=>?_
        refine LN<|TN ?_
        refine ⟨l.length - (i+1),by omega,i+1,⟨rfl,by omega,fun j y hj hy=>?_⟩,ha.keep [3,5],hs.sub⟩
        rcases Nat.lt_or_ge j i with h | h
        · exact hin j y h hy
        · obtain rfl : j=i:=by omega
          rw [hx] at hy; cases hy
          simp only [ctlB,Bool.and_eq_true,decide_eq_true_eq]; omega
     ·
      refine wp_exit<|TE<|TE<|blk_e<|TN<|WS<|WR ?_
      refine S1 ha fun a ha=>?_
      refine LN<|TN<|wp_ret ?_
      refine ret1 ha rfl ?_
      refine ⟨?_,hs.sub⟩
      have hall : l.all ctlB=true:=by
        rw [List.all_eq_true]
        intro x hx
        obtain ⟨j,hj⟩:=List.mem_iff_getElem?.1 hx
        exact hin j x (by have:=(List.getElem?_eq_some_iff.1 hj).1; omega) hj
      rw [htk,hall,hg2,decide_eq_true (p:=1≤l.length) (by omega),decide_eq_true (p:=l.length≤20) (by omega)]; rfl
theorem small_spec {x : Int} (hs : St W w L) : Calls Tryz.prog 137 #[.int .i64 x] w fun e w'=>∃ r : Bool,e=.returned (.bool r)∧(r=true ↔ i32P x)∧St W w' L:=by
 simp only [i32P]
 refine calls_enter Tryz.func137 rfl Tryz.ntmps137 (Nat.le_of_ble_eq_true rfl) ?_
 intro a ha
 replace ha : Fr a 9 [(0,_)]:=ha
 refine WS<|WR ?_
 refine S1 ha fun a ha=>?_
 refine LN<|TN<|WS<|WR ?_
 iterate 3 (refine S1 ha fun a ha=>?_)
 refine ha.by (s:=5) (fun hg2 ha=>?_) (fun hg2 ha=>?_)
 ·
  iterate 2 (refine S1g (s:=5) ha fun a ha=>?_)
  refine PT ha fun a ha=>?_
  refine S1d ha fun a ha=>?_
  refine LN<|TN<|wp_ret ?_
  refine ret1 ha rfl ?_
  exact ⟨_,rfl,by rw [decide_eq_true_iff]; omega,hs⟩
 ·
  iterate 2 (refine SO (s:=5) ha fun a ha=>?_)
  refine PF ha fun a ha=>?_
  refine S1d ha fun a ha=>?_
  refine LN<|TN<|wp_ret ?_
  refine ret1 ha rfl ?_
  exact ⟨_,rfl,⟨fun h=>(by cases h),fun h=>by omega⟩,hs⟩
theorem refForm_spec {p : Pr} (hs : St W w (RoP W p adO cO::L)) (hsz : p.title.size≤1000000000) (hol : p.ops.length≤1000000000) :
   Calls Tryz.prog 102 #[.agg (prV p adO cO).toArray] w fun e w'=>∃ r : Bool,e=.returned (.bool r)∧(r=true ↔ formOk p)∧St W w' (RoP W p adO cO::L):=by
 refine calls_enter Tryz.func102 rfl Tryz.ntmps102 (Nat.le_of_ble_eq_true rfl) ?_
 intro a ha
 replace ha : Fr a 55 [(0,_)]:=ha
 refine WS<|WR ?_
 refine SK (st_box ha rfl hs rfl fun b1 a w ha hs ho=>?_)
 clear ho
 change St W w (blk b1 33 (prV p adO cO)::_) at hs
 refine S1 ha fun a ha=>?_
 refine LN<|TN<|WS<|WS<|WR ?_
 refine S1 ha fun a ha=>?_
 refine SL ha (hs.rd1 rfl) fun a ha=>?_
 refine SK (st_call ha rfl Ty.c136 rfl (refTitle_spec hs hsz) ?_); clear ha hs
 rintro e w ⟨rfl,hs⟩
 refine ⟨_,rfl,?_⟩
 intro a ha
 iterate 2 (refine S1 ha fun a ha=>?_)
 refine ha.by (s:=9) (fun hg4 ha=>?_) (fun hg4 ha=>?_)
 ·
  iterate 4 (refine SO (s:=9) ha fun a ha=>?_)
  refine PT ha fun a ha=>?_
  refine S1 ha fun a ha=>?_
  iterate 4 (refine SO (s:=15) ha fun a ha=>?_)
  refine PT ha fun a ha=>?_
  refine LN<|TN<|WTr ha<|WS<|WR ?_
  refine S1d ha fun a ha=>?_
  refine LN<|TN<|wp_ret<|TR ?_
  refine ret1 ha rfl ?_
  exact ⟨false,rfl,⟨fun h=>(by cases h),fun h=>by rw [h.1] at hg4; cases hg4⟩,hs.sub⟩
 ·
  have htt : tOk p.title=true:=by simpa using hg4
  refine S1g (s:=9) ha fun a ha=>?_
  refine SLg (s:=9) ha (hs.rd1 rfl) fun a ha=>?_
  iterate 2 (refine S1g (s:=9) ha fun a ha=>?_)
  refine PF ha fun a ha=>?_
  refine S1 ha fun a ha=>?_
  refine ha.by (s:=15) (fun hg10 ha=>?_) (fun hg10 ha=>?_)
  ·
   iterate 4 (refine SO (s:=15) ha fun a ha=>?_)
   refine PT ha fun a ha=>?_
   refine LN<|TN<|WTr ha<|WS<|WR ?_
   refine S1d ha fun a ha=>?_
   refine LN<|TN<|wp_ret<|TR ?_
   refine ret1 ha rfl ?_
   exact ⟨false,rfl,⟨fun h=>(by cases h),fun h=>by have:=h.2.1; omega⟩,hs.sub⟩
  ·
   refine S1g (s:=15) ha fun a ha=>?_
   refine SLg (s:=15) ha (hs.rd1 rfl) fun a ha=>?_
   iterate 2 (refine S1g (s:=15) ha fun a ha=>?_)
   refine PF ha fun a ha=>?_
   refine LN<|TN ?_
   refine WI ha (fun hc0=>?_) (fun hc0=>?_)
   ·
    refine WS<|WR ?_
    refine S1d ha fun a ha=>?_
    refine LN<|TN<|wp_ret<|TR ?_
    refine ret1 ha rfl ?_
    exact ⟨false,rfl,⟨fun h=>(by cases h),fun h=>by have:=h.2.2.1; omega⟩,hs.sub⟩
   ·
    refine WK<|TN<|WS<|WS<|WR ?_
    refine S1 ha fun a ha=>?_
    refine LN<|TN<|wp_block ?_
    refine wp_loop_ghost (fun μ a w=>∃ i : Nat,(μ=p.ops.length - i∧i≤p.ops.length∧∀ j o,j < i→p.ops[j]?=some o→i32O o)∧Fr a 55 [(1,.pointer (some ⟨b1,0,none⟩)),(3,.int .i64 i)]∧St W w (blk b1 33 (prV p adO cO)::RoP W p adO cO::L)) (p.ops.length) ?_ ?_
    · exact ⟨0,⟨by simp,by simp,fun j o h=>absurd h (by omega)⟩,ha.keep [1,3],hs.sub⟩
    ·
     clear ha hs
     rintro μ a w ⟨i,⟨rfl,hi,hin⟩,ha,hs⟩
     refine WS<|WS<|WR ?_
     iterate 2 (refine S1 ha fun a ha=>?_)
     refine SL ha (hs.rd1 rfl) fun a ha=>?_
     iterate 2 (refine S1 ha fun a ha=>?_)
     refine LN<|TN ?_
     refine WI ha (fun hc1=>?_) (fun hc1=>?_)
     ·
      obtain ⟨o,ho⟩ : ∃ o,p.ops[i]?=some o:=⟨_,List.getElem?_eq_getElem (by omega)⟩
      obtain ⟨bo,oo,rfl,hro⟩:=hs.roRd adO (by omega)
      refine WK<|TN<|WS<|wp_block<|WS<|WR ?_
      refine S1 ha fun a ha=>?_
      refine SL ha (hs.rd1 rfl) fun a ha=>?_
      refine S1 ha fun a ha=>?_
      refine SK (st_set ha rfl (ex_indexAddr ha Tryz.underlying31 Ty.t87 (by omega)) rfl fun a ha=>?_)
      refine SK (st_set ha rfl (ex_loadN ha Tryz.underlying87 rfl Ty.t87 (op_rd hro ho)) rfl fun a ha=>?_)
      refine SK (st_alloc ha rfl hs Ty.t87 rfl fun b4 a w ha hs ho=>?_)
      clear ho
      refine SK (st_storeAll ha rfl hs Ty.t87 (opR_one o) (by rfl) fun a w ha hs=>?_)
      refine LN<|TN<|WS<|WR ?_
      refine S1 ha fun a ha=>?_
      refine SL ha (hs.rd1 rfl) fun a ha=>?_
      refine SK (st_call ha rfl Ty.c137 rfl (small_spec hs) ?_); clear ha hs
      rintro e w ⟨r1,rfl,hr1,hs⟩
      refine ⟨_,rfl,?_⟩
      intro a ha
      iterate 2 (refine S1 ha fun a ha=>?_)
      refine ha.by (s:=37) (fun hg4 ha=>?_) (fun hg4 ha=>?_)
      ·
       have hbad : ¬ i32O o:=fun h=>by rw [hr1.2 h.1] at hg4; cases hg4
       iterate 4 (refine SO (s:=37) ha fun a ha=>?_)
       refine PT ha fun a ha=>?_
       refine S1 ha fun a ha=>?_
       iterate 4 (refine SO (s:=43) ha fun a ha=>?_)
       refine PT ha fun a ha=>?_
       refine S1 ha fun a ha=>?_
       iterate 4 (refine SO (s:=49) ha fun a ha=>?_)
       refine PT ha fun a ha=>?_
       refine LN<|TN<|WTr ha<|WS<|WR ?_
       refine S1 ha fun a ha=>?_
       refine LN<|TN<|wp_ret<|BR<|TR<|TR<|BR<|TR ?_
       refine ret1 ha rfl ?_
       exact ⟨false,rfl,⟨fun h=>(by cases h),fun h=>absurd (h.2.2.2 o (List.mem_of_getElem? ho)) hbad⟩,hs.sub⟩
      ·
       refine S1g (s:=37) ha fun a ha=>?_
       refine SLg (s:=37) ha (hs.rd1 rfl) fun a ha=>?_
       refine SK (st_call ha (wgT ha rfl (s:=37)) Ty.c137 rfl (small_spec hs) ?_); clear ha hs
       rintro e w ⟨r2,rfl,hr2,hs⟩
       refine ⟨_,rfl,?_⟩
       intro a ha
       refine S1g (s:=37) ha fun a ha=>?_
       refine PF ha fun a ha=>?_
       refine S1 ha fun a ha=>?_
       refine ha.by (s:=43) (fun hg10 ha=>?_) (fun hg10 ha=>?_)
       ·
        have hbad : ¬ i32O o:=fun h=>by rw [hr2.2 h.2.1] at hg10; cases hg10
        iterate 4 (refine SO (s:=43) ha fun a ha=>?_)
        refine PT ha fun a ha=>?_
        refine S1 ha fun a ha=>?_
        iterate 4 (refine SO (s:=49) ha fun a ha=>?_)
        refine PT ha fun a ha=>?_
        refine LN<|TN<|WTr ha<|WS<|WR ?_
        refine S1 ha fun a ha=>?_
        refine LN<|TN<|wp_ret<|BR<|TR<|TR<|BR<|TR ?_
        refine ret1 ha rfl ?_
        exact ⟨false,rfl,⟨fun h=>(by cases h),fun h=>absurd (h.2.2.2 o (List.mem_of_getElem? ho)) hbad⟩,hs.sub⟩
       ·
        refine S1g (s:=43) ha fun a ha=>?_
        refine SLg (s:=43) ha (hs.rd1 rfl) fun a ha=>?_
        refine SK (st_call ha (wgT ha rfl (s:=43)) Ty.c137 rfl (small_spec hs) ?_); clear ha hs
        rintro e w ⟨r3,rfl,hr3,hs⟩
        refine ⟨_,rfl,?_⟩
        intro a ha
        refine S1g (s:=43) ha fun a ha=>?_
        refine PF ha fun a ha=>?_
        refine S1 ha fun a ha=>?_
        refine ha.by (s:=49) (fun hg16 ha=>?_) (fun hg16 ha=>?_)
        ·
         have hbad : ¬ i32O o:=fun h=>by rw [hr3.2 h.2.2.1] at hg16; cases hg16
         iterate 4 (refine SO (s:=49) ha fun a ha=>?_)
         refine PT ha fun a ha=>?_
         refine LN<|TN<|WTr ha<|WS<|WR ?_
         refine S1 ha fun a ha=>?_
         refine LN<|TN<|wp_ret<|BR<|TR<|TR<|BR<|TR ?_
         refine ret1 ha rfl ?_
         exact ⟨false,rfl,⟨fun h=>(by cases h),fun h=>absurd (h.2.2.2 o (List.mem_of_getElem? ho)) hbad⟩,hs.sub⟩
        ·
         refine S1g (s:=49) ha fun a ha=>?_
         refine SLg (s:=49) ha (hs.rd1 rfl) fun a ha=>?_
         refine SK (st_call ha (wgT ha rfl (s:=49)) Ty.c137 rfl (small_spec hs) ?_); clear ha hs
         rintro e w ⟨r4,rfl,hr4,hs⟩
         refine ⟨_,rfl,?_⟩
         intro a ha
         refine S1g (s:=49) ha fun a ha=>?_
         refine PF ha fun a ha=>?_
         refine LN<|TN ?_
         refine WI ha (fun hc2=>?_) (fun hc2=>?_)
         ·
          have hbad : ¬ i32O o:=fun h=>by rw [hr4.2 h.2.2.2] at hc2; cases hc2
          refine WS<|WR ?_
          refine S1 ha fun a ha=>?_
          refine LN<|TN<|wp_ret<|BR<|TR<|TR<|BR<|TR ?_
          refine ret1 ha rfl ?_
          exact ⟨false,rfl,⟨fun h=>(by cases h),fun h=>absurd (h.2.2.2 o (List.mem_of_getElem? ho)) hbad⟩,hs.sub⟩
         ·
          have hgood : i32O o:=⟨hr1.1 (by simpa using hg4),hr2.1 (by simpa using hg10),hr3.1 (by simpa using hg16),hr4.1 (by simpa using hc2)⟩
          refine WK<|BN<|TN<|WR ?_
          refine S1 ha fun a ha=>?_
          refine SK (st_set ha rfl (ex_addI ha (by omega) (by omega)) rfl fun a ha=>?_)
          refine S1d ha fun a ha=>?_
          refine LN<|TN ?_
          refine ⟨p.ops.length - (i+1),by omega,i+1,⟨rfl,by omega,fun j o' hj ho'=>?_⟩,ha.keep [1,3],hs.sub⟩
          rcases Nat.lt_or_ge j i with h | h
          · exact hin j o' h ho'
          · obtain rfl : j=i:=by omega
            rw [ho] at ho'; cases ho'
            exact hgood
     ·
      refine wp_exit<|TE<|TE<|blk_e<|TN<|WS<|WR ?_
      refine S1 ha fun a ha=>?_
      refine LN<|TN<|wp_ret ?_
      refine ret1 ha rfl ?_
      refine ⟨true,rfl,⟨fun _=>⟨htt,by omega,by omega,fun o ho=>?_⟩,fun _=>rfl⟩,hs.sub⟩
      obtain ⟨j,hj⟩:=List.mem_iff_getElem?.1 ho
      exact hin j o (by have:=(List.getElem?_eq_some_iff.1 hj).1; omega) hj
theorem takes_row : ∀ m : Nat,m≤15→(([[.int .i64 0],[.int .i64 2],[.int .i64 2],[.int .i64 3],[.int .i64 3],[.int .i64 3],[.int .i64 3],[.int .i64 3],[.int .i64 3],[.int .i64 1],[.int .i64 2],[.int .i64 2],[.int .i64 2],[.int .i64 2],[.int .i64 2],[.int .i64 1]].flatten : List Value))[m]?=some (.int .i64 (takesN (m : Int)))
 | 0,_=>rfl
 | 1,_=>rfl
 | 2,_=>rfl
 | 3,_=>rfl
 | 4,_=>rfl
 | 5,_=>rfl
 | 6,_=>rfl
 | 7,_=>rfl
 | 8,_=>rfl
 | 9,_=>rfl
 | 10,_=>rfl
 | 11,_=>rfl
 | 12,_=>rfl
 | 13,_=>rfl
 | 14,_=>rfl
 | 15,_=>rfl
 | n+16,h=>absurd h (by omega)
theorem refTakes_spec {k : Int} (hs : St W w L) (hk : 0≤k∧k≤15) : Calls Tryz.prog 138 #[.int .i64 k] w fun e w'=>e=.returned (.int .i64 (takesN k))∧St W w' L:=by
 obtain ⟨m,rfl⟩ : ∃ m : Nat,k=m:=⟨k.toNat,by omega⟩
 have hm : m≤15:=by omega
 refine calls_enter Tryz.func138 rfl Tryz.ntmps138 (Nat.le_of_ble_eq_true rfl) ?_
 intro a ha
 replace ha : Fr a 9 [(0,_)]:=ha
 refine WS<|WR ?_
 refine S1 ha fun a ha=>?_
 refine LN<|TN<|WS<|WR ?_
 refine SK (st_buildSlice ha rfl hs Tryz.underlying63 Ty.t3 rfl rfl rfl rfl (by decide) (by decide) fun b4 a w ha hs ho=>?_)
 clear ho
 refine S1 ha fun a ha=>?_
 refine LN<|TN<|WS<|WR ?_
 iterate 2 (refine S1 ha fun a ha=>?_)
 refine SK (st_set ha rfl (ex_indexAddr ha Tryz.underlying63 Ty.t3 (by omega)) rfl fun a ha=>?_)
 rw [Nat.mul_one] at ha
 refine SL ha ((hs.rdAll m _ (takes_row m hm))) fun a ha=>?_
 refine S1d ha fun a ha=>?_
 refine LN<|TN<|wp_ret ?_
 refine ret1 ha rfl ?_
 exact ⟨rfl,hs.sub⟩
theorem args_row {o : OpR} : ∀ k : Nat,k < 3→([[.int .i64 o.a],[.int .i64 o.b],[.int .i64 o.c]].flatten : List Value)[k]?=some (.int .i64 (argO o k))
 | 0,_=>rfl
 | 1,_=>rfl
 | 2,_=>rfl
 | n+3,h=>absurd h (by omega)
theorem refMayOp_spec {n : Nat} {o : OpR} (hs : St W w L) : Calls Tryz.prog 103 #[.agg (opR o).toArray,.int .i64 n] w fun e w'=>∃ r : Bool,e=.returned (.bool r)∧(r=true ↔ okOp n o)∧St W w' L:=by
 refine calls_enter Tryz.func103 rfl Tryz.ntmps103 (Nat.le_of_ble_eq_true rfl) ?_
 intro a ha
 replace ha : Fr a 68 [(0,_),(1,_)]:=ha
 refine WS<|WR ?_
 refine SK (st_box ha rfl hs rfl fun b2 a w ha hs ho=>?_)
 clear ho
 change St W w (blk b2 87 (opR o)::_) at hs
 refine S1 ha fun a ha=>?_
 refine LN<|TN<|WS<|WS<|WR ?_
 refine S1 ha fun a ha=>?_
 refine SL ha (hs.rd1 rfl) fun a ha=>?_
 iterate 2 (refine S1 ha fun a ha=>?_)
 refine ha.by (s:=11) (fun hg3 ha=>?_) (fun hg3 ha=>?_)
 ·
  iterate 3 (refine SO (s:=11) ha fun a ha=>?_)
  refine PT ha fun a ha=>?_
  refine LN<|TN<|WTr ha<|WS<|WR ?_
  refine S1d ha fun a ha=>?_
  refine LN<|TN<|wp_ret<|TR ?_
  refine ret1 ha rfl ?_
  exact ⟨false,rfl,⟨fun h=>(by cases h),fun h=>by have:=(okOp_iff.1 h).1; omega⟩,hs.sub⟩
 ·
  refine S1g (s:=11) ha fun a ha=>?_
  refine SLg (s:=11) ha (hs.rd1 rfl) fun a ha=>?_
  refine S1g (s:=11) ha fun a ha=>?_
  refine PF ha fun a ha=>?_
  refine LN<|TN ?_
  refine WI ha (fun hc0=>?_) (fun hc0=>?_)
  ·
   refine WS<|WR ?_
   refine S1d ha fun a ha=>?_
   refine LN<|TN<|wp_ret<|TR ?_
   refine ret1 ha rfl ?_
   exact ⟨false,rfl,⟨fun h=>(by cases h),fun h=>by have:=(okOp_iff.1 h).1; omega⟩,hs.sub⟩
  ·
   refine WK<|TN<|WS<|WR ?_
   refine S1 ha fun a ha=>?_
   refine SL ha (hs.rd1 rfl) fun a ha=>?_
   refine S1 ha fun a ha=>?_
   refine SL ha (hs.rd1 rfl) fun a ha=>?_
   refine S1 ha fun a ha=>?_
   refine SL ha (hs.rd1 rfl) fun a ha=>?_
   refine SK (st_buildSlice ha rfl hs Tryz.underlying63 Ty.t3 rfl rfl rfl rfl (by decide) (by decide) fun b22 a w ha hs ho=>?_)
   clear ho
   refine S1 ha fun a ha=>?_
   refine LN<|TN<|WS<|WS<|WR ?_
   refine S1 ha fun a ha=>?_
   refine LN<|TN<|wp_block ?_
   refine wp_loop_ghost (fun μ a w=>∃ k : Nat,(μ=3 - k∧k≤3∧∀ j,j < k→okK n o j)∧Fr a 68 [(1,.int .i64 n),(2,.pointer (some ⟨b2,0,none⟩)),(5,.slice (some ⟨b22,0,none⟩) 3 3),(6,.int .i64 k)]∧St W w (blk b22 3 [[.int .i64 o.a],[.int .i64 o.b],[.int .i64 o.c]].flatten::blk b2 87 (opR o)::L)) (3) ?_ ?_
   · exact ⟨0,⟨by simp,by simp,fun j h=>absurd h (by omega)⟩,ha.keep [1,2,5,6],hs.sub⟩
   ·
    clear ha hs
    rintro μ a w ⟨k,⟨rfl,hk,hin⟩,ha,hs⟩
    refine WS<|WS<|WR ?_
    iterate 2 (refine S1 ha fun a ha=>?_)
    refine LN<|TN ?_
    refine WI ha (fun hc1=>?_) (fun hc1=>?_)
    ·
     refine WK<|TN<|WS<|wp_block<|WS<|WR ?_
     refine S1 ha fun a ha=>?_
     refine LN<|TN ?_
     refine wp_seq_cut (M:=fun a w=>(takesN o.code≤k∨¬ (o.code=1∧k=1))∧Fr a 68 [(1,.int .i64 n),(2,.pointer (some ⟨b2,0,none⟩)),(5,.slice (some ⟨b22,0,none⟩) 3 3),(6,.int .i64 k),(7,.int .i64 (mostO n o k))]∧St W w (blk b22 3 [[.int .i64 o.a],[.int .i64 o.b],[.int .i64 o.c]].flatten::blk b2 87 (opR o)::L)) ?_ ?_
     ·
      refine wp_block<|WS<|WR ?_
      iterate 2 (refine S1 ha fun a ha=>?_)
      refine SL ha (hs.rd1 rfl) fun a ha=>?_
      refine SK (st_call ha rfl Ty.c138 rfl (refTakes_spec hs (by omega)) ?_); clear ha hs
      rintro e w ⟨rfl,hs⟩
      refine ⟨_,rfl,?_⟩
      intro a ha
      iterate 2 (refine S1 ha fun a ha=>?_)
      refine LN<|TN ?_
      refine WI ha (fun hc2=>?_) (fun hc2=>?_)
      ·
       refine WR ?_
       refine S1d ha fun a ha=>?_
       refine LN<|BN<|TN ?_
       refine ⟨.inl (by omega),?_,hs.sub⟩
       rw [show mostO n o k=0 from if_pos (by omega)]
       exact ha.keep [1,2,5,6,7]
      ·
       refine WS<|WR ?_
       refine S1 ha fun a ha=>?_
       refine SL ha (hs.rd1 rfl) fun a ha=>?_
       iterate 2 (refine S1 ha fun a ha=>?_)
       refine ha.by (s:=37) (fun hg3 ha=>?_) (fun hg3 ha=>?_)
       ·
        iterate 2 (refine S1g (s:=37) ha fun a ha=>?_)
        refine PT ha fun a ha=>?_
        refine S1 ha fun a ha=>?_
        refine LN<|TN ?_
        refine WI ha (fun hc3=>?_) (fun hc3=>?_)
        ·
         refine wp_exit<|blk_ne rfl<|TE<|blk_e<|TN<|WR ?_
         refine S1 ha fun a ha=>?_
         refine SK (st_set ha rfl (ex_addI ha (by omega) (by omega)) rfl fun a ha=>?_)
         refine S1d ha fun a ha=>?_
         refine LN<|TN ?_
         refine ⟨3 - (k+1),by omega,k+1,⟨rfl,by omega,fun j hj=>?_⟩,ha.keep [1,2,5,6],hs.sub⟩
         rcases Nat.lt_or_ge j k with h | h
         · exact hin j h
         · obtain rfl : j=k:=by omega
           exact .inl ⟨by omega,by omega,by omega⟩
        ·
         refine WS<|WR ?_
         refine S1 ha fun a ha=>?_
         refine SL ha (hs.rd1 rfl) fun a ha=>?_
         iterate 2 (refine S1 ha fun a ha=>?_)
         refine ha.by (s:=45) (fun hg3 ha=>?_) (fun hg3 ha=>?_)
         ·
          iterate 3 (refine SO (s:=45) ha fun a ha=>?_)
          refine SK (st_offU ha (wgF ha rfl (s:=45) rfl) rfl fun a ha=>?_)
          iterate 2 (refine SK (st_off ha (wgU ha rfl (s:=49)) rfl fun a ha=>?_))
          refine SO (s:=45) ha fun a ha=>?_
          refine PT ha fun a ha=>?_
          refine S1 ha fun a ha=>?_
          refine LN<|TN<|WTr ha<|WR ?_
          refine S1 ha fun a ha=>?_
          refine S1d ha fun a ha=>?_
          refine LN<|BN<|TN ?_
          refine ⟨.inr (by omega),?_,hs.sub⟩
          rw [show mostO n o k=n from by rw [mostO,if_neg (by omega),if_pos (by omega)]]
          exact ha.keep [1,2,5,6,7]
         ·
          refine S1g (s:=45) ha fun a ha=>?_
          refine SLg (s:=45) ha (hs.rd1 rfl) fun a ha=>?_
          iterate 2 (refine S1g (s:=45) ha fun a ha=>?_)
          refine ha.by (s:=49) (fun hg7 ha=>?_) (fun hg7 ha=>?_)
          ·
           iterate 2 (refine S1g (s:=49) ha fun a ha=>?_)
           refine PTg (s:=45) ha fun a ha=>?_
           refine PF ha fun a ha=>?_
           refine S1 ha fun a ha=>?_
           refine LN<|TN ?_
           refine WI ha (fun hc4=>?_) (fun hc4=>?_)
           ·
            refine WR ?_
            refine S1 ha fun a ha=>?_
            refine S1d ha fun a ha=>?_
            refine LN<|BN<|TN ?_
            refine ⟨.inr (by omega),?_,hs.sub⟩
            rw [show mostO n o k=n from by rw [mostO,if_neg (by omega),if_pos (by omega)]]
            exact ha.keep [1,2,5,6,7]
           ·
            refine WK<|BN<|TN ?_
            refine ⟨.inr (by omega),?_,hs.sub⟩
            rw [show mostO n o k=31 from by rw [mostO,if_neg (by omega),if_neg (by omega)]]
            exact ha.keep [1,2,5,6,7]
          ·
           iterate 2 (refine SO (s:=49) ha fun a ha=>?_)
           refine PFg (s:=45) ha fun a ha=>?_
           refine PF ha fun a ha=>?_
           refine S1 ha fun a ha=>?_
           refine LN<|TN<|WFa ha<|WK<|BN<|TN ?_
           refine ⟨.inr (by omega),?_,hs.sub⟩
           rw [show mostO n o k=31 from by rw [mostO,if_neg (by omega),if_neg (by omega)]]
           exact ha.keep [1,2,5,6,7]
       ·
        iterate 2 (refine SO (s:=37) ha fun a ha=>?_)
        refine PF ha fun a ha=>?_
        refine S1 ha fun a ha=>?_
        refine LN<|TN<|WFa ha<|WS<|WR ?_
        refine S1 ha fun a ha=>?_
        refine SL ha (hs.rd1 rfl) fun a ha=>?_
        iterate 2 (refine S1 ha fun a ha=>?_)
        refine ha.by (s:=45) (fun hg3 ha=>?_) (fun hg3 ha=>?_)
        ·
         iterate 3 (refine SO (s:=45) ha fun a ha=>?_)
         refine SK (st_offU ha (wgF ha rfl (s:=45) rfl) rfl fun a ha=>?_)
         iterate 2 (refine SK (st_off ha (wgU ha rfl (s:=49)) rfl fun a ha=>?_))
         refine SO (s:=45) ha fun a ha=>?_
         refine PT ha fun a ha=>?_
         refine S1 ha fun a ha=>?_
         refine LN<|TN<|WTr ha<|WR ?_
         refine S1 ha fun a ha=>?_
         refine S1d ha fun a ha=>?_
         refine LN<|BN<|TN ?_
         refine ⟨.inr (by omega),?_,hs.sub⟩
         rw [show mostO n o k=n from by rw [mostO,if_neg (by omega),if_pos (by omega)]]
         exact ha.keep [1,2,5,6,7]
        ·
         refine S1g (s:=45) ha fun a ha=>?_
         refine SLg (s:=45) ha (hs.rd1 rfl) fun a ha=>?_
         iterate 2 (refine S1g (s:=45) ha fun a ha=>?_)
         refine ha.by (s:=49) (fun hg7 ha=>?_) (fun hg7 ha=>?_)
         ·
          iterate 2 (refine S1g (s:=49) ha fun a ha=>?_)
          refine PTg (s:=45) ha fun a ha=>?_
          refine PF ha fun a ha=>?_
          refine S1 ha fun a ha=>?_
          refine LN<|TN ?_
          refine WI ha (fun hc4=>?_) (fun hc4=>?_)
          ·
           refine WR ?_
           refine S1 ha fun a ha=>?_
           refine S1d ha fun a ha=>?_
           refine LN<|BN<|TN ?_
           refine ⟨.inr (by omega),?_,hs.sub⟩
           rw [show mostO n o k=n from by rw [mostO,if_neg (by omega),if_pos (by omega)]]
           exact ha.keep [1,2,5,6,7]
          ·
           refine WK<|BN<|TN ?_
           refine ⟨.inr (by omega),?_,hs.sub⟩
           rw [show mostO n o k=31 from by rw [mostO,if_neg (by omega),if_neg (by omega)]]
           exact ha.keep [1,2,5,6,7]
         ·
          iterate 2 (refine SO (s:=49) ha fun a ha=>?_)
          refine PFg (s:=45) ha fun a ha=>?_
          refine PF ha fun a ha=>?_
          refine S1 ha fun a ha=>?_
          refine LN<|TN<|WFa ha<|WK<|BN<|TN ?_
          refine ⟨.inr (by omega),?_,hs.sub⟩
          rw [show mostO n o k=31 from by rw [mostO,if_neg (by omega),if_neg (by omega)]]
          exact ha.keep [1,2,5,6,7]
     ·
      clear ha; (try clear hs)
      intro a w hcut
      obtain ⟨hnc,ha,hs⟩:=hcut
      refine WS<|WR ?_
      iterate 2 (refine S1 ha fun a ha=>?_)
      refine SK (st_set ha rfl (ex_indexAddr ha Tryz.underlying63 Ty.t3 (by omega)) rfl fun a ha=>?_)
      rw [Nat.mul_one] at ha
      refine SL ha ((hs.rdAll k _ (args_row k (by omega)))) fun a ha=>?_
      iterate 2 (refine S1 ha fun a ha=>?_)
      refine ha.by (s:=60) (fun hg5 ha=>?_) (fun hg5 ha=>?_)
      ·
       iterate 6 (refine SO (s:=60) ha fun a ha=>?_)
       refine PT ha fun a ha=>?_
       refine LN<|TN<|WTr ha<|WS<|WR ?_
       refine S1 ha fun a ha=>?_
       refine LN<|TN<|wp_ret<|BR<|TR<|TR<|BR<|TR ?_
       refine ret1 ha rfl ?_
       refine ⟨false,rfl,⟨fun h=>(by cases h),fun h=>?_⟩,hs.sub⟩
       have hk2 : okK n o k:=by
         obtain ⟨_,h0,h1,h2⟩:=okOp_iff.1 h
         rcases (by omega : k=0∨k=1∨k=2) with rfl | rfl | rfl
         · exact h0
         · exact h1
         · exact h2
       simp only [okK] at hk2
       omega
      ·
       iterate 2 (refine S1g (s:=60) ha fun a ha=>?_)
       refine SK (st_set ha (wgT ha rfl (s:=60)) (ex_indexAddr ha Tryz.underlying63 Ty.t3 (by omega)) rfl fun a ha=>?_)
       rw [Nat.mul_one] at ha
       refine SLg (s:=60) ha ((hs.rdAll k _ (args_row k (by omega)))) fun a ha=>?_
       iterate 2 (refine S1g (s:=60) ha fun a ha=>?_)
       refine PF ha fun a ha=>?_
       refine LN<|TN ?_
       refine WI ha (fun hc5=>?_) (fun hc5=>?_)
       ·
        refine WS<|WR ?_
        refine S1 ha fun a ha=>?_
        refine LN<|TN<|wp_ret<|BR<|TR<|TR<|BR<|TR ?_
        refine ret1 ha rfl ?_
        refine ⟨false,rfl,⟨fun h=>(by cases h),fun h=>?_⟩,hs.sub⟩
        have hk2 : okK n o k:=by
          obtain ⟨_,h0,h1,h2⟩:=okOp_iff.1 h
          rcases (by omega : k=0∨k=1∨k=2) with rfl | rfl | rfl
          · exact h0
          · exact h1
          · exact h2
        simp only [okK] at hk2
        omega
       ·
        refine WK<|BN<|TN<|WR ?_
        refine S1 ha fun a ha=>?_
        refine SK (st_set ha rfl (ex_addI ha (by omega) (by omega)) rfl fun a ha=>?_)
        refine S1d ha fun a ha=>?_
        refine LN<|TN ?_
        refine ⟨3 - (k+1),by omega,k+1,⟨rfl,by omega,fun j hj=>?_⟩,ha.keep [1,2,5,6],hs.sub⟩
        rcases Nat.lt_or_ge j k with h | h
        · exact hin j h
        · obtain rfl : j=k:=by omega
          exact .inr ⟨by omega,by omega⟩
    ·
     refine wp_exit<|TE<|TE<|blk_e<|TN<|WS<|WR ?_
     refine S1 ha fun a ha=>?_
     refine LN<|TN<|wp_ret ?_
     refine ret1 ha rfl ?_
     exact ⟨true,rfl,⟨fun _=>okOp_iff.2 ⟨by omega,hin 0 (by omega),hin 1 (by omega),hin 2 (by omega)⟩,fun _=>rfl⟩,hs.sub⟩
theorem refFault_spec {p : Pr} (hs : St W w (RoP W p adO cO::L)) (hsz : p.title.size≤1000000000) (hol : p.ops.length≤1000000000) :
   Calls Tryz.prog 53 #[.agg (prV p adO cO).toArray] w fun e w'=>∃ r : Int,e=.returned (.int .i64 r)∧(r = -1 ↔ prOk p)∧St W w' (RoP W p adO cO::L):=by
 refine calls_enter Tryz.func53 rfl Tryz.ntmps53 (Nat.le_of_ble_eq_true rfl) ?_
 intro a ha
 replace ha : Fr a 25 [(0,_)]:=ha
 refine WS<|WR ?_
 refine SK (st_box ha rfl hs rfl fun b1 a w ha hs ho=>?_)
 clear ho
 change St W w (blk b1 33 (prV p adO cO)::_) at hs
 refine S1 ha fun a ha=>?_
 refine LN<|TN<|WS<|WS<|WR ?_
 refine SK (st_set ha rfl (ex_loadN ha Tryz.underlying33 rfl Ty.t33 (hs.rdAll)) rfl fun a ha=>?_)
 refine SK (st_call ha rfl Ty.c102 rfl (refForm_spec (hs.pick (RoP W p adO cO)) hsz hol) ?_); clear ha hs
 rintro e w ⟨r,rfl,hr,hs⟩
 refine ⟨_,rfl,?_⟩
 intro a ha
 refine S1 ha fun a ha=>?_
 refine LN<|TN ?_
 refine WI ha (fun hc0=>?_) (fun hc0=>?_)
 ·
  have hnf : ¬ formOk p:=fun h=>by rw [hr.2 h] at hc0; cases hc0
  refine WS<|WR ?_
  refine S1d ha fun a ha=>?_
  refine LN<|TN<|wp_ret<|TR ?_
  refine ret1 ha rfl ?_
  exact ⟨-2,rfl,⟨fun h=>absurd h (by decide),fun h=>absurd h.1 hnf⟩,hs.sub⟩
 ·
  have hfo : formOk p:=hr.1 (by simpa using hc0)
  refine WK<|TN<|WS<|WS<|WR ?_
  refine S1 ha fun a ha=>?_
  refine LN<|TN<|wp_block ?_
  refine wp_loop_ghost (fun μ a w=>∃ i : Nat,(μ=p.ops.length - i∧i≤p.ops.length∧∀ j o,j < i→p.ops[j]?=some o→okOp p.ops.length o)∧Fr a 25 [(1,.pointer (some ⟨b1,0,none⟩)),(3,.int .i64 i)]∧St W w (blk b1 33 (prV p adO cO)::RoP W p adO cO::L)) (p.ops.length) ?_ ?_
  · exact ⟨0,⟨by simp,by simp,fun j o h=>absurd h (by omega)⟩,ha.keep [1,3],hs.sub⟩
  ·
   clear ha hs
   rintro μ a w ⟨i,⟨rfl,hi,hin⟩,ha,hs⟩
   refine WS<|WS<|WR ?_
   iterate 2 (refine S1 ha fun a ha=>?_)
   refine SL ha (hs.rd1 rfl) fun a ha=>?_
   iterate 2 (refine S1 ha fun a ha=>?_)
   refine LN<|TN ?_
   refine WI ha (fun hc1=>?_) (fun hc1=>?_)
   ·
    refine WK<|TN<|WS<|wp_block<|WS ?_
    obtain ⟨o,ho⟩ : ∃ o,p.ops[i]?=some o:=⟨_,List.getElem?_eq_getElem (by omega)⟩
    obtain ⟨bo,oo,rfl,hro⟩:=hs.drew.roRd adO (by omega)
    have hrp:=op_rd hro ho
    refine DW (m:=10) (fun w'=>Rd w' b1 0 (prV p (some ⟨bo,oo,none⟩) cO)∧Rd w' bo (oo+i*4) (opR o)) [6,7] [0,2,5,1,3,4,6,7,8,9] Ty.mixed (pk_then (pk_blk (pk_then (pk_then (pk_blk (pk_then pk_body)))))) (fun hpk=>?_)
    replace hs:=hs.drew
    generalize w.drew=w at hs hpk hrp ⊢
    have hC : Rd w b1 0 (prV p (some ⟨bo,oo,none⟩) cO)∧Rd w bo (oo+i*4) (opR o):=⟨hs.rdAll,hrp⟩
    iterate 3 (refine DP hpk ha rfl fun a ha=>?_)
    refine DL hpk ha rfl (fun w hc=>hc.1 1 _ rfl) hC fun a ha=>?_
    refine DQ hpk ha rfl rfl (fun w=>ex_indexAddr ha Tryz.underlying31 Ty.t87 (by omega)) fun a ha=>?_
    refine DH hpk ha rfl rfl (fun w hc=>ex_loadN ha Tryz.underlying87 rfl Ty.t87 (hc.2)) hC fun a ha=>?_
    refine D1 rfl (st_set ha rfl (ex_load1 ha Tryz.underlying31 rfl (hC.1 1 _ rfl)) rfl fun a ha=>?_)
    refine ⟨fun _=>hC,?_⟩
    refine D1 rfl (st_set ha rfl (ex_len ha Tryz.underlying31) rfl fun a ha=>?_)
    refine ⟨fun _=>hC,?_⟩
    refine D1 rfl (st_call ha rfl Ty.c103 rfl (refMayOp_spec (n:=p.ops.length) (o:=o) hs) ?_); clear ha hs
    rintro e w ⟨r,rfl,hr,hs⟩
    refine ⟨_,rfl,?_⟩
    intro a ha
    refine ⟨fun h=>absurd h (by decide),?_⟩
    refine DP hpk ha rfl fun a ha=>?_
    refine DD<|TN ?_
    refine WI ha (fun hc2=>?_) (fun hc2=>?_)
    ·
     have hno : ¬ okOp p.ops.length o:=fun h=>by rw [hr.2 h] at hc2; cases hc2
     refine WS<|WR ?_
     iterate 2 (refine S1 ha fun a ha=>?_)
     refine LN<|TN<|wp_ret<|BR<|TR<|TR<|BR<|TR ?_
     refine ret1 ha rfl ?_
     exact ⟨i,rfl,⟨fun h=>absurd h (by omega),fun h=>absurd (h.2 o (List.mem_of_getElem? ho)) hno⟩,hs.sub⟩
    ·
     have hok : okOp p.ops.length o:=hr.1 (by simpa using hc2)
     refine WK<|BN<|TN<|WR ?_
     refine S1 ha fun a ha=>?_
     refine SK (st_set ha rfl (ex_addI ha (by omega) (by omega)) rfl fun a ha=>?_)
     refine S1d ha fun a ha=>?_
     refine LN<|TN ?_
     refine ⟨p.ops.length - (i+1),by omega,i+1,⟨rfl,by omega,fun j o' hj ho'=>?_⟩,ha.keep [1,3],hs.sub⟩
     rcases Nat.lt_or_ge j i with h | h
     · exact hin j o' h ho'
     · obtain rfl : j=i:=by omega
       rw [ho] at ho'; cases ho'
       exact hok
   ·
    refine wp_exit<|TE<|TE<|blk_e<|TN<|WS<|WR ?_
    refine S1 ha fun a ha=>?_
    refine LN<|TN<|wp_ret ?_
    refine ret1 ha rfl ?_
    refine ⟨-1,rfl,⟨fun _=>⟨hfo,fun o ho=>?_⟩,fun _=>rfl⟩,hs.sub⟩
    obtain ⟨j,hj⟩:=List.mem_iff_getElem?.1 ho
    exact hin j o (by have:=(List.getElem?_eq_some_iff.1 hj).1; omega) hj
end
end Go.Proofs.YtagpkhbkdbaigaaGreat
