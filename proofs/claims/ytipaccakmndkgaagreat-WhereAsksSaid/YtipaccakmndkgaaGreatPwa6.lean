/- The walks of bits.Put and bits.Cut: a bit let in or out of a word. Conditions: a place below 64. The walk of the tree's fix at a leaf that is the only node. Conditions: at most 128 bits. -/
import Derived.Test.YtipaccakmndkgaaGreatPwa3
import Derived.Test.YtipaccakmndkgaaGreatPwa4
import Derived.Test.YtipaccakmndkgaaGreatPwa5
namespace Go.Proofs.YtipaccakmndkgaaGreat
open Go.RowKit
set_option linter.unusedVariables false
set_option linter.unusedSimpArgs false
theorem andnot64 (a b:Nat) (ha:a < 18446744073709551616) (hb:b < 18446744073709551616):bits .andNot .u64 (a:Int) (b:Int)=((a&&&(18446744073709551615 - b):Nat):Int):=by
 have ha':a % 2 ^ 64=a:=Nat.mod_eq_of_lt (by omega)
 have hb':b % 2 ^ 64=b:=Nat.mod_eq_of_lt (by omega)
 have hlt:a&&&(18446744073709551615 - b) < 2 ^ 64:=Nat.and_lt_two_pow _ (by omega)
 show IntKind.u64.wrap (((BitVec.ofInt 64 (a:Int)&&& ~~~ BitVec.ofInt 64 (b:Int)).toNat:Nat):Int)=_
 rw [BitVec.ofInt_natCast,BitVec.ofInt_natCast,BitVec.toNat_and,BitVec.toNat_not,BitVec.toNat_ofNat,BitVec.toNat_ofNat,ha',hb',IntKind.wrap_u64,show 2 ^ 64 - 1 - b=18446744073709551615 - b by omega]
 omega
theorem or_lt64 {a b:Nat} (ha:a < 18446744073709551616) (hb:b < 18446744073709551616):a||| b < 18446744073709551616:=Nat.or_lt_two_pow (n:=64) ha hb
theorem and_lt64 (a:Nat) {b:Nat} (hb:b < 18446744073709551616):a&&& b < 18446744073709551616:=Nat.and_lt_two_pow (n:=64) a hb
theorem lowN_k (x k:Nat) (hk:k < 64):lowN x (k:Int)=x % 2 ^ k:=by
 unfold lowN
 rw [show min ((k:Int)).toNat 64=k by omega]
set_option maxRecDepth 100000 in
set_option maxHeartbeats 1000000 in
theorem BPut_any (x k:Nat) (b:Bool) (hx:x < 18446744073709551616) (hk:k < 64) (w:World):
 Calls Tryz.prog 165 #[.int .u64 (x:Int),.int .i64 (k:Int),.bool b] w fun e w'=>e=.returned (.tuple #[.int .u64 ((putN x k b:Nat):Int),.bool (x.testBit 63)])∧w=w':=by
 have hlow:=lowN_k x k hk
 obtain ⟨a,ha⟩:∃a,x % 2 ^ k=a:=⟨_,rfl⟩
 have hal:a < 18446744073709551616:=by rw [←ha];exact low_lt x k hx
 obtain ⟨q,hq⟩:∃q,2 ^ k=q:=⟨_,rfl⟩
 have hql:q < 18446744073709551616:=by
  rw [←hq]
  exact Nat.pow_lt_pow_right (a:=2) (by decide) (show k < 64 from hk)
 have hqI:(2:Int)^ k=(q:Int):=by rw [←hq];push_cast;rfl
 obtain ⟨c,hc⟩:∃c,(if b then q else 0:Nat)=c:=⟨_,rfl⟩
 have hcl:c < 18446744073709551616:=by rw [←hc];split <;> omega
 have h1:IntKind.u64.wrap (q:Int)=(q:Int):=by rw [IntKind.wrap_u64];omega
 have h2:=or64 a c hal hcl
 obtain ⟨n1,hn1⟩:∃n,a||| c=n:=⟨_,rfl⟩
 have hn1l:n1 < 18446744073709551616:=by rw [←hn1];exact or_lt64 hal hcl
 have h3:=andnot64 x a hx hal
 obtain ⟨n2,hn2⟩:∃n,x&&&(18446744073709551615 - a)=n:=⟨_,rfl⟩
 have hn2l:n2 < 18446744073709551616:=by rw [←hn2];exact and_lt64 _ (by omega)
 obtain ⟨n3,hn3⟩:∃n,n2*2 % 18446744073709551616=n:=⟨_,rfl⟩
 have hn3l:n3 < 18446744073709551616:=by omega
 have h4:IntKind.u64.wrap ((n2:Int)*2)=(n3:Int):=by rw [IntKind.wrap_u64];omega
 have h5:=or64 n1 n3 hn1l hn3l
 have hfin:putN x k b=n1||| n3:=by
  unfold putN
  rw [ha,hq,hc,hn1,hn2,hn3]
 have htop:((x:Int)/ 9223372036854775808==1)=x.testBit 63:=by
  rw [←top_bit x hx,Bool.eq_iff_iff,beq_iff_eq,decide_eq_true_eq]
  omega
 rw [hn1] at h2
 rw [hn2] at h3
 rw [hfin,←htop]
 have hk0:decide ((k:Int) < 0)=false:=by simp
 have hk1:¬((k:Int)≥64):=by omega
 have Hlow:=Lib.hid (hlow.trans ha)
 clear hfin htop hlow ha hq hn1 hn2 hn3
 go_enter Tryz.func165,Tryz.ntmps165
 go_wp2_with fail
 refine (low_any x (k:Int) hx (by omega) _).mono ?_
 rintro e w1 ⟨rfl,rfl⟩
 rw [Hlow.out]
 cases b with
 | true=>
   rw [if_pos rfl] at hc
   subst hc
   go_wp2_with fail
   go_ret2
   exact ⟨rfl,rfl⟩
 | false=>
   rw [if_neg (by simp)] at hc
   subst hc
   have h2':bits .or .u64 (a:Int) 0=(n1:Int):=h2
   go_wp2_with fail
   go_ret2
   exact ⟨by rw [←h5];rfl,rfl⟩
set_option maxRecDepth 100000 in
set_option maxHeartbeats 1000000 in
theorem BCut_any (x k:Nat) (b:Bool) (hx:x < 18446744073709551616) (hk:k < 64) (w:World):
 Calls Tryz.prog 171 #[.int .u64 (x:Int),.int .i64 (k:Int),.bool b] w fun e w'=>e=.returned (.tuple #[.int .u64 ((cutN x k b:Nat):Int),.bool (x.testBit k)])∧w=w':=by
 have hlow:=lowN_k x k hk
 have hlow2:=lowN_k (x / 2) k hk
 obtain ⟨a,ha⟩:∃a,x % 2 ^ k=a:=⟨_,rfl⟩
 have hal:a < 18446744073709551616:=by rw [←ha];exact low_lt x k hx
 have hx2:x / 2 < 18446744073709551616:=by omega
 obtain ⟨a2,ha2⟩:∃a,x / 2 % 2 ^ k=a:=⟨_,rfl⟩
 have hal2:a2 < 18446744073709551616:=by rw [←ha2];exact low_lt _ k hx2
 obtain ⟨y,hy⟩:∃y,x / 2=y:=⟨_,rfl⟩
 have hyI:(x:Int)/ 2=(y:Int):=by omega
 have hyl:y < 18446744073709551616:=by omega
 obtain ⟨c,hc⟩:∃c,(if b then 9223372036854775808 else 0:Nat)=c:=⟨_,rfl⟩
 have hcl:c < 18446744073709551616:=by rw [←hc];split <;> omega
 have h3:=andnot64 y a2 hyl hal2
 obtain ⟨n2,hn2⟩:∃n,y&&&(18446744073709551615 - a2)=n:=⟨_,rfl⟩
 have hn2l:n2 < 18446744073709551616:=by rw [←hn2];exact and_lt64 _ (by omega)
 have h2:=or64 a n2 hal hn2l
 obtain ⟨n1,hn1⟩:∃n,a||| n2=n:=⟨_,rfl⟩
 have hn1l:n1 < 18446744073709551616:=by rw [←hn1];exact or_lt64 hal hn2l
 have h5:=or64 n1 c hn1l hcl
 have hfin:cutN x k b=n1||| c:=by
  unfold cutN
  rw [ha,hy,hc]
  rw [hy] at ha2
  rw [ha2,hn2,hn1]
 obtain ⟨d,hd⟩:∃d,x / 2 ^ k=d:=⟨_,rfl⟩
 have hdI:(x:Int)/ 2 ^ k=(d:Int):=by rw [←hd];push_cast;rfl
 have hdl:d < 18446744073709551616:=by rw [←hd];exact Nat.lt_of_le_of_lt (Nat.div_le_self _ _) hx
 have h6:bits .and .u64 (d:Int) 1=((d&&& 1:Nat):Int):=(bits_nat .u64 64 (by decide) (fun n h0 h1=>by rw [IntKind.wrap_u64];omega) d 1 (by omega) (by decide)).1
 have htop:(((d&&& 1:Nat):Int)==1)=x.testBit k:=by
  rw [Nat.testBit_eq_decide_div_mod_eq,hd,Nat.and_one_is_mod,Bool.eq_iff_iff,beq_iff_eq,decide_eq_true_eq]
  omega
 obtain ⟨d1,hd1⟩:∃z,d&&& 1=z:=⟨_,rfl⟩
 rw [hd1] at h6 htop
 rw [hn1] at h2
 rw [hn2] at h3
 rw [hfin,←htop]
 have hk0:decide ((k:Int) < 0)=false:=by simp
 have hk1:¬((k:Int)≥64):=by omega
 rw [hy] at hlow2 ha2
 have Hlow:=Lib.hid (hlow.trans ha)
 have Hlow2:=Lib.hid (hlow2.trans ha2)
 clear hfin htop hlow hlow2 ha ha2 hy hn1 hn2 hd hd1
 go_enter Tryz.func171,Tryz.ntmps171
 go_wp2_with fail
 refine (low_any x (k:Int) hx (by omega) _).mono ?_
 rintro e w1 ⟨rfl,rfl⟩
 rw [Hlow.out]
 cases b with
 | true=>
   rw [if_pos rfl] at hc
   subst hc
   have h5':bits .or .u64 (n1:Int) 9223372036854775808=((n1||| 9223372036854775808:Nat):Int):=h5
   go_wp2_with fail
   refine (low_any y (k:Int) hyl (by omega) _).mono ?_
   rintro e w1 ⟨rfl,rfl⟩
   rw [Hlow2.out]
   go_wp2_with fail
   go_ret2
   exact ⟨rfl,rfl⟩
 | false=>
   rw [if_neg (by simp)] at hc
   subst hc
   have h5':bits .or .u64 (n1:Int) 0=((n1||| 0:Nat):Int):=h5
   go_wp2_with fail
   refine (low_any y (k:Int) hyl (by omega) _).mono ?_
   rintro e w1 ⟨rfl,rfl⟩
   rw [Hlow2.out]
   go_wp2_with fail
   go_ret2
   exact ⟨by rw [Nat.or_zero];rfl,rfl⟩
end Go.Proofs.YtipaccakmndkgaaGreat
namespace Go.Proofs.YtipaccakmndkgaaGreat
open Go.RowKit
set_option linter.unusedVariables false
set_option linter.unusedSimpArgs false
def leafL (x y:Int) (gb:Nat):List Value:= [.int .i64 (-1),.int .i64 (-1),.int .i64 0,.int .i64 x,.int .i64 y,.int .i64 0,.int .i64 0,.pointer (some ⟨gb,0,none⟩)]
def RowS (B gl cl gb:Nat) (x y:Int) (w:World):Prop:=w.ownsRow B 119 8 (.slice (some ⟨gl,0,none⟩) 1 cl) 1 (leafL x y gb)
theorem RowS.grow {B gl cl gb:Nat} {x y:Int} {w w':World} (h:RowS B gl cl gb x y w) (k:Below w.heap.size w w'):RowS B gl cl gb x y w':=own_below h k
theorem RowS.at3 {B gl cl gb:Nat} {x y:Int} {w:World} (h:RowS B gl cl gb x y w) (z:Int):RowS B gl cl gb z y (w.setCell ⟨gl,3,none⟩ (.int .i64 z)):=(World.ownsRow.stored h 3 (.int .i64 z)).1
theorem RowS.at4 {B gl cl gb:Nat} {x y:Int} {w:World} (h:RowS B gl cl gb x y w) (z:Int):RowS B gl cl gb x z (w.setCell ⟨gl,4,none⟩ (.int .i64 z)):=(World.ownsRow.stored h 4 (.int .i64 z)).1
theorem RowS.lt {B gl cl gb:Nat} {x y:Int} {w:World} (h:RowS B gl cl gb x y w):B≤gl∧gl < w.heap.size:=World.ownsRow.lt h gl rfl
theorem RowS.bk_ne {B gl cl gb g:Nat} {x y:Int} {w:World} {t:TypeId} {cs:Array Value} (h:RowS B gl cl gb x y w) (hg:Bk w g t cs) (hne:119≠t):g≠gl:=fun e=>own_bk_ne h hg hne (by rw [e];rfl)
def FixC (W0:World) (B gl cl gb:Nat) (w1:World):Prop:=Keep (fun b=>b=gl) W0 w1∧∃x y,RowS B gl cl gb x y w1
def FixS (B gl cl gb:Nat) (N O:Int) (j:Nat) (w1 w2:World):Prop:=
 (j=14→Keep (fun b=>b=gl) w1 w2∧∀x y,RowS B gl cl gb x y w1→RowS B gl cl gb N y w2)∧(j=17→Keep (fun b=>b=gl) w1 w2∧∀x y,RowS B gl cl gb x y w1→RowS B gl cl gb x O w2)∧(j≠14→j≠17→Grow w1 w2)
theorem fixs_grow {B gl cl gb:Nat} {N O:Int} {j:Nat} {w1 w2:World} (h1:j≠14) (h2:j≠17) (h:Grow w1 w2):FixS B gl cl gb N O j w1 w2:=⟨fun e=>absurd e h1,fun e=>absurd e h2,fun _ _=>h⟩
theorem fixc_step {W0 w1 w2:World} {B gl cl gb j:Nat} {N O:Int} (h:FixC W0 B gl cl gb w1) (k:FixS B gl cl gb N O j w1 w2):FixC W0 B gl cl gb w2:=by
 obtain ⟨h1,x,y,h2⟩:=h
 by_cases h14:j=14
 · obtain ⟨k1,k2⟩:=k.1 h14
   exact ⟨h1.trans k1,_,_,k2 x y h2⟩
 · by_cases h17:j=17
   · obtain ⟨k1,k2⟩:=k.2.1 h17
     exact ⟨h1.trans k1,_,_,k2 x y h2⟩
   · have kg:=k.2.2 h14 h17
     exact ⟨h1.trans (Keep.of_below kg),x,y,h2.grow kg⟩
def N3 (B gl cl gb:Nat) (N:Int):Value→World→Prop:=fun _ w1=>∃y,RowS B gl cl gb N y w1
def N4 (B gl cl gb:Nat) (O:Int):Value→World→Prop:=fun _ w1=>∃x,RowS B gl cl gb x O w1
set_option maxRecDepth 100000 in
set_option maxHeartbeats 4000000 in
theorem fix_leaf (gt ga gl cl gb B:Nat) (rt v:Int) (bs:List Bool) (w:World) (ht:Bk w gt 116 #[.pointer (some ⟨ga,0,none⟩),.slice (some ⟨gl,0,none⟩) 1 cl,.int .i64 rt,.int .i64 v]) {x0 y0:Int} (hr:RowS B gl cl gb x0 y0 w) (hb:Bk w gb 146 (blkC bs)) (hl:bs.length≤128):
 Calls Tryz.prog 153 #[.pointer (some ⟨gt,0,none⟩),.int .i64 0] w fun e w'=>e=.returned (.tuple #[])∧Keep (fun b=>b=gl) w w'∧RowS B gl cl gb (bs.length:Int) ((bs.count true:Nat):Int) w':=by
 obtain ⟨N,hN⟩:∃N:Int,(bs.length:Int)=N:=⟨_,rfl⟩
 obtain ⟨O,hO⟩:∃O:Int,((bs.count true:Nat):Int)=O:=⟨_,rfl⟩
 rw [hN,hO]
 have HN:=Lib.hid hN
 have HO:=Lib.hid hO
 have c1:w.cell? ⟨gt,1,none⟩=some (.slice (some ⟨gl,0,none⟩) 1 cl):=(ht.cell 1).trans rfl
 have c7:w.cell? ⟨gl,7,none⟩=some (.pointer (some ⟨gb,0,none⟩)):=(World.ownsRow.cellAt hr 7 (by omega)).trans rfl
 have hglt:=hr.lt
 have hbne:=hr.bk_ne hb (by decide)
 have Hb:=Lib.hid hb
 have Hr:=Lib.hid hr
 clear hN hO ht hb hr
 go_enter Tryz.func153,Tryz.ntmps153
 go_wp2
 refine wp_region_any (by kernel_rfl) ?_
 refine wpAny_loose8 [18,19,20,21,22,23,24,25,26,27,28,29,30,31,32,33] (FixC w B gl cl gb) (FixS B gl cl gb N O) (fun _ _=>True) (Vs [is (.pointer (some ⟨gl,0,none⟩)),is (.pointer (some ⟨gl,0,none⟩)),is (.pointer (some ⟨gl,0,none⟩)),is (.pointer (some ⟨gl,0,none⟩)),is (.pointer (some ⟨gl,7,none⟩)),is (.pointer (some ⟨gb,0,none⟩)),is (.int .i64 N),is (.pointer (some ⟨gl,0,none⟩)),is (.pointer (some ⟨gl,0,none⟩)),is (.pointer (some ⟨gl,7,none⟩)),is (.pointer (some ⟨gb,0,none⟩)),is (.int .i64 O),is (.pointer (some ⟨gl,0,none⟩)),is (.pointer (some ⟨gl,3,none⟩)),N3 B gl cl gb N,is (.pointer (some ⟨gl,0,none⟩)),is (.pointer (some ⟨gl,4,none⟩)),N4 B gl cl gb O]) _ _ rfl (by kernel_rfl) ⟨⟨rfl,rfl,rfl,Nat.le_refl _,fun _ _ _=>rfl⟩,_,_,Hr.out⟩ (fun _=>trivial) (fun j w1 w2 h k=>fixc_step h k) (fun _ _ _ _ _ _ _ _ _=>trivial) ?_ ?_ ?_
 · intro i j v w1 w2 hij haf hv hC k
   rcases i with _ | _ | _ | _ | _ | _ | _ | _ | _ | _ | _ | _ | _ | _ | _ | _ | _ | _ | i
   · exact hv
   · exact hv
   · exact hv
   · exact hv
   · exact hv
   · exact hv
   · exact hv
   · exact hv
   · exact hv
   · exact hv
   · exact hv
   · exact hv
   · exact hv
   · exact hv
   · obtain ⟨y,hv⟩:=hv
     by_cases h17:j=17
     · exact ⟨_,(k.2.1 h17).2 _ _ hv⟩
     · exact ⟨_,RowS.grow hv (k.2.2 (fun e=>hij e.symm) h17)⟩
   · exact hv
   · exact hv
   · obtain ⟨x,hv⟩:=hv
     by_cases h14:j=14
     · exact ⟨_,(k.1 h14).2 _ _ hv⟩
     · exact ⟨_,RowS.grow hv (k.2.2 h14 (fun e=>hij e.symm))⟩
   · exact trivial
 · refine steps_of ?_
   refine steps_cons (step_on3 rfl rfl fun ev _ hS _ _ _ hold _ _ _ _ hK=>?_) ?_
   · obtain ⟨hk5,x5,y5,hr5⟩:=hS
     have e4:ev (.tmp 4)=.pointer (some ⟨gl,0,none⟩):=hold 4 (by kernel_rfl)
     go_simp
     exact hK _ _ (fixs_grow (by decide) (by decide) (Below.refl _ _)) rfl
   refine steps_cons (step_on3 rfl rfl fun ev _ hS _ _ _ hold _ _ _ _ hK=>?_) ?_
   · obtain ⟨hk5,x5,y5,hr5⟩:=hS
     have e4:ev (.tmp 4)=.pointer (some ⟨gl,0,none⟩):=hold 4 (by kernel_rfl)
     go_simp
     exact hK _ _ (fixs_grow (by decide) (by decide) (Below.refl _ _)) rfl
   refine steps_cons (step_on3 rfl rfl fun ev _ hS _ _ _ hold _ _ _ _ hK=>?_) ?_
   · obtain ⟨hk5,x5,y5,hr5⟩:=hS
     have e4:ev (.tmp 4)=.pointer (some ⟨gl,0,none⟩):=hold 4 (by kernel_rfl)
     go_simp
     exact hK _ _ (fixs_grow (by decide) (by decide) (Below.refl _ _)) rfl
   refine steps_cons (step_on3 rfl rfl fun _ _ hS _ _ _ _ hval _ _ _ hK=>?_) ?_
   · obtain ⟨hk5,x5,y5,hr5⟩:=hS
     have e20:_=_:=hval 2 20 (by kernel_rfl) rfl
     go_simp
     exact hK _ _ (fixs_grow (by decide) (by decide) (Below.refl _ _)) rfl
   refine steps_cons (step_on3 rfl rfl fun _ _ hS _ _ _ _ hval _ _ _ hK=>?_) ?_
   · obtain ⟨hk5,x5,y5,hr5⟩:=hS
     have e21:_=_:=hval 3 21 (by kernel_rfl) rfl
     go_simp
     exact hK _ _ (fixs_grow (by decide) (by decide) (Below.refl _ _)) rfl
   refine steps_cons (step_on3 rfl rfl fun _ w5 hS _ _ _ _ hval _ _ _ hK=>?_) ?_
   · obtain ⟨hk5,x5,y5,hr5⟩:=hS
     have e22:_=_:=hval 4 22 (by kernel_rfl) rfl
     have d7:w5.cell? ⟨gl,7,none⟩=some (.pointer (some ⟨gb,0,none⟩)):=(World.ownsRow.cellAt hr5 7 (by omega)).trans rfl
     go_simp
     exact hK _ _ (fixs_grow (by decide) (by decide) (Below.refl _ _)) rfl
   refine steps_cons (step_on3 rfl rfl fun _ w5 hS _ _ _ _ hval _ _ _ hK=>?_) ?_
   · obtain ⟨hk5,x5,y5,hr5⟩:=hS
     have e23:_=_:=hval 5 23 (by kernel_rfl) rfl
     have hb5:=hk5.bk Hb.out (fun e=>hbne e)
     go_simp
     refine (BlockLen_any gb bs w5 hb5).mono ?_
     rintro e w8 ⟨rfl,rfl⟩
     exact hK _ _ (fixs_grow (by decide) (by decide) (Below.refl _ _)) (i64_eq HN.out)
   refine steps_cons (step_on3 rfl rfl fun ev _ hS _ _ _ hold _ _ _ _ hK=>?_) ?_
   · obtain ⟨hk5,x5,y5,hr5⟩:=hS
     have e4:ev (.tmp 4)=.pointer (some ⟨gl,0,none⟩):=hold 4 (by kernel_rfl)
     go_simp
     exact hK _ _ (fixs_grow (by decide) (by decide) (Below.refl _ _)) rfl
   refine steps_cons (step_on3 rfl rfl fun _ _ hS _ _ _ _ hval _ _ _ hK=>?_) ?_
   · obtain ⟨hk5,x5,y5,hr5⟩:=hS
     have e25:_=_:=hval 7 25 (by kernel_rfl) rfl
     go_simp
     exact hK _ _ (fixs_grow (by decide) (by decide) (Below.refl _ _)) rfl
   refine steps_cons (step_on3 rfl rfl fun _ _ hS _ _ _ _ hval _ _ _ hK=>?_) ?_
   · obtain ⟨hk5,x5,y5,hr5⟩:=hS
     have e26:_=_:=hval 8 26 (by kernel_rfl) rfl
     go_simp
     exact hK _ _ (fixs_grow (by decide) (by decide) (Below.refl _ _)) rfl
   refine steps_cons (step_on3 rfl rfl fun _ w5 hS _ _ _ _ hval _ _ _ hK=>?_) ?_
   · obtain ⟨hk5,x5,y5,hr5⟩:=hS
     have e27:_=_:=hval 9 27 (by kernel_rfl) rfl
     have d7:w5.cell? ⟨gl,7,none⟩=some (.pointer (some ⟨gb,0,none⟩)):=(World.ownsRow.cellAt hr5 7 (by omega)).trans rfl
     go_simp
     exact hK _ _ (fixs_grow (by decide) (by decide) (Below.refl _ _)) rfl
   refine steps_cons (step_on3 rfl rfl fun _ w5 hS _ _ _ _ hval _ _ _ hK=>?_) ?_
   · obtain ⟨hk5,x5,y5,hr5⟩:=hS
     have e28:_=_:=hval 10 28 (by kernel_rfl) rfl
     have hb5:=hk5.bk Hb.out (fun e=>hbne e)
     go_simp
     refine (BlockOnes_any gb bs w5 hb5 hl).mono ?_
     rintro e w8 ⟨rfl,rfl⟩
     exact hK _ _ (fixs_grow (by decide) (by decide) (Below.refl _ _)) (i64_eq HO.out)
   refine steps_cons (step_on3 rfl rfl fun _ _ hS _ _ _ _ hval _ _ _ hK=>?_) ?_
   · obtain ⟨hk5,x5,y5,hr5⟩:=hS
     have e18:_=_:=hval 0 18 (by kernel_rfl) rfl
     go_simp
     exact hK _ _ (fixs_grow (by decide) (by decide) (Below.refl _ _)) rfl
   refine steps_cons (step_on3 rfl rfl fun _ _ hS _ _ _ _ hval _ _ _ hK=>?_) ?_
   · obtain ⟨hk5,x5,y5,hr5⟩:=hS
     have e30:_=_:=hval 12 30 (by kernel_rfl) rfl
     go_simp
     exact hK _ _ (fixs_grow (by decide) (by decide) (Below.refl _ _)) rfl
   refine steps_cons (step_on3 rfl rfl fun _ w5 hS _ _ _ _ hval _ _ _ hK=>?_) ?_
   · obtain ⟨hk5,x5,y5,hr5⟩:=hS
     have e31:_=_:=hval 13 31 (by kernel_rfl) rfl
     have e24:_=_:=hval 6 24 (by kernel_rfl) rfl
     have d3:w5.cell? ⟨gl,3,none⟩=some (.int .i64 x5):=(World.ownsRow.cellAt hr5 3 (by omega)).trans rfl
     have f3:=World.ownsRow.frozenAt hr5 3
     go_simp
     exact hK (.bool true) _ ⟨fun _=>⟨Keep.setCell (F:=fun b=>b=gl) (Keep.refl _ _) (p:=⟨gl,3,none⟩) (.inl rfl) _,fun x y h=>h.at3 N⟩,fun e=>absurd e (by decide),fun e=>absurd rfl e⟩ ⟨y5,hr5.at3 N⟩
   refine steps_cons (step_on3 rfl rfl fun _ _ hS _ _ _ _ hval _ _ _ hK=>?_) ?_
   · obtain ⟨hk5,x5,y5,hr5⟩:=hS
     have e19:_=_:=hval 1 19 (by kernel_rfl) rfl
     go_simp
     exact hK _ _ (fixs_grow (by decide) (by decide) (Below.refl _ _)) rfl
   refine steps_cons (step_on3 rfl rfl fun _ _ hS _ _ _ _ hval _ _ _ hK=>?_) ?_
   · obtain ⟨hk5,x5,y5,hr5⟩:=hS
     have e32:_=_:=hval 15 32 (by kernel_rfl) rfl
     go_simp
     exact hK _ _ (fixs_grow (by decide) (by decide) (Below.refl _ _)) rfl
   refine steps_cons (step_on3 rfl rfl fun _ w5 hS _ _ _ _ hval _ _ _ hK=>?_) ?_
   · obtain ⟨hk5,x5,y5,hr5⟩:=hS
     have e33:_=_:=hval 16 33 (by kernel_rfl) rfl
     have e29:_=_:=hval 11 29 (by kernel_rfl) rfl
     have d4:w5.cell? ⟨gl,4,none⟩=some (.int .i64 y5):=(World.ownsRow.cellAt hr5 4 (by omega)).trans rfl
     have f4:=World.ownsRow.frozenAt hr5 4
     go_simp
     exact hK (.bool true) _ ⟨fun e=>absurd e (by decide),fun _=>⟨Keep.setCell (F:=fun b=>b=gl) (Keep.refl _ _) (p:=⟨gl,4,none⟩) (.inl rfl) _,fun x y h=>h.at4 O⟩,fun _ e=>absurd rfl e⟩ ⟨x5,hr5.at4 O⟩
   exact steps_nil
 · intro ev w6 hS hval hall
   obtain ⟨hk6,_⟩:=hS
   obtain ⟨_,y6,h14⟩:∃v,N3 B gl cl gb N v w6:=hall 14 (by decide)
   obtain ⟨_,x6,h17⟩:∃v,N4 B gl cl gb O v w6:=hall 17 (by decide)
   have hfin:RowS B gl cl gb N O w6:=by
    have q4:=(World.ownsRow.cellAt h14 4 (by omega)).symm.trans (World.ownsRow.cellAt h17 4 (by omega))
    have q5:y6=O:=by simpa [leafL] using q4
    rw [←q5]
    exact h14
   simp only [putsOf,List.foldl_cons,List.foldl_nil,Act.put,List.setIfInBounds_toArray,List.set_cons_zero,List.set_cons_succ]
   clear hval hall
   go_wp2
   exact bodyPost_ret (results_none rfl _ _ _) rfl ⟨rfl,hk6,hfin⟩
end Go.Proofs.YtipaccakmndkgaaGreat
