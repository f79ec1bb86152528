/- The walks of the reference's Last and At. Conditions: at most 900 bytes. The walks of live's add and fill: behind an edit no samples are too far apart. Conditions: at most 127 bytes; a rate from 1 to 64. -/
import Derived.Test.YtipaccakmndkgaaGreatDoorPsl37
import Derived.Test.YtipaccakmndkgaaGreatDoorPsl22
import Derived.Test.YtipaccakmndkgaaGreatDoorPsl30
import Derived.Test.YtipaccakmndkgaaGreatDoorPsl38
import Derived.Test.YtipaccakmndkgaaGreatDoorPsl13
set_option linter.unusedVariables false
set_option linter.unusedSimpArgs false
set_option maxRecDepth 100000
set_option maxHeartbeats 3000000
namespace Go.Proofs.YtipaccakmndkgaaGreatDoor
open Go.RowKit
def RefLastPost (t:List UInt8) (n:Nat) (w:World) (e:Ending) (w':World):Prop:=∃A' c' rs,e=.returned (.slice A' (n+1) c')∧IsSuf (symL t) rs∧Made w' w.heap.size 3 1 A' (n+1) c' ((lastL (symL t) rs).map sv)∧Below w.heap.size w w'
theorem RefLast_any (t:List UInt8) (n:Nat) (w:World) (hn:t.length=n) (hn4:n≤900):
 Calls Tryz.prog 83 #[.string ⟨t.toArray⟩] w (RefLastPost t n w):=by
 obtain ⟨i0,hi0,hz0,hz1,hz2⟩:=info_parts int_info
 have hr:=RefRows_any t n w hn hn4
 unfold RefRowsPost at hr
 have Hn:=lhd hn
 have z1:(⟨t.toArray⟩:ByteArray).size=n:=(ba_size t).trans hn
 clear hn
 unfold RefLastPost
 go_enter Tryz.func83,Tryz.ntmps83
 go_wp2_with fail
 refine hr.mono ?_
 rintro e w1 ⟨A1,c1,rs,rfl,hs,hm1,hb1⟩
 have hrl:rs.length=n+1:=by rw [hs.len,symL_len,Hn.out]
 obtain ⟨L,hL⟩:∃L,lastL (symL t) rs=L:=⟨_,rfl⟩
 have hLl:L.length=n+1:=by rw [←hL,lastL_len,hrl]
 have Hs:=lhd hs
 have Hm1:=lhd hm1
 have Hb1:=lhd hb1
 have Hrl:=lhd hrl
 have HL:=lhd hL
 have HLl:=lhd hLl
 clear hr hs hm1 hb1 hrl hL hLl
 go_wp2_with fail
 go_loopw [4,5] (fun v i wr=>∃k:Nat,k≤n+1∧i=.int .i64 (k:Int)∧wr.ownsRow w1.heap.size 3 1 v k ((L.take k).map sv)∧Below w1.heap.size w1 wr) (fun _ i _=>n+1 -(intOf i).toNat)
 case atStart=>exact ⟨0,Nat.zero_le _,rfl,World.ownsRow_nil _ _ _ _,Below.refl _ _⟩
 case round=>
  obtain ⟨k,hk,rfl,hown,hb⟩:=hrel
  have hsz:=hb.size
  by_cases hlt:k < n+1
  · have hkr:k < rs.length:=by rw [Hrl.out];exact hlt
    obtain ⟨p,hp⟩:∃p,rs[k]?=some p:=⟨_,List.getElem?_eq_getElem hkr⟩
    have hpn:p≤n:=by
        have:=Hs.out.lt (List.mem_of_getElem? hp)
        rw [symL_len,Hn.out] at this
        omega
    obtain ⟨b1,o1,rfl,hb1,hc1⟩:=(Hm1.out.rd.below hb).2 (by omega)
    have d1:wr.cell? ⟨b1,o1+k,none⟩=some (.int .i64 (p:Int)):=hc1 k _ (by rw [List.getElem?_map,hp];rfl)
    have hLk:L[k]?=some (prevL (symL t) p):=by rw [←HL.out];unfold lastL;rw [List.getElem?_map,hp];rfl
    have hnext:L.take (k+1)=L.take k++ [prevL (symL t) p]:=by rw [List.take_add_one,hLk];rfl
    have Hown:=lhd hown
    have Hb:=lhd hb
    have Hp:=lhd hp
    clear hown hb hp hc1 hLk hkr
    rcases p with _ | q
    · have hpv:prevL (symL t) 0=0:=by
       rw [prevL_zero (by rw [symL_len];omega),symL_len,Nat.add_sub_cancel]
       exact (symL_end t).last
      rw [hpv] at hnext
      have Hnext:=lhd hnext
      clear hnext hpv
      have d2:wr.cell? ⟨b1,o1+k,none⟩=some (.int .i64 0):=d1
      clear d1
      go_wp2_with (at_builtin;refine wpList_push _ rfl (.tmp 19) (.tmp 20) _ rfl w1.heap.size 3 i0 (.int .i64 0) 1 8 Tryz.underlying22 hi0 hz0 hz1 hz2 rfl (by decide) _ k _ rfl Hown.out rfl rfl (by simp [Value.oneCell']) (by unfold maxLen;omega) (by omega) hsz ?_;intro v2 w2 hown2 hg2 hs2 hat2)
      have hb2:=below_grown Hb.out Hown.out hg2 hsz
      clear hg2 hat2
      go_roundw
      case rel=>exact ⟨k+1,by omega,by go_num,by rw [Hnext.out,List.map_append];exact hown2,hb2⟩
      case measure=>simp [intOf];omega
    · obtain ⟨c,hc⟩:∃c,t[q]?=some c:=⟨_,List.getElem?_eq_getElem (by rw [Hn.out];omega)⟩
      have hpv:prevL (symL t) (q+1)=c.toNat+1:=by
       rw [prevL_succ (by rw [symL_len,Hn.out];omega)]
       unfold symL symB
       rw [List.getD_eq_getElem?_getD,List.getElem?_append_left (by rw [List.length_map,Hn.out];omega),List.getElem?_map,hc]
       rfl
      rw [hpv] at hnext
      have Hnext:=lhd hnext
      have g1:(((q+1:Nat):Int)==0)=false:=by rw [beq_eq_false_iff_ne];omega
      have g2:IntKind.i64.wrap (((q+1:Nat):Int) - 1)=(q:Int):=by rw [IntKind.wrap_i64];omega
      have ks:=str_at hc
      have hcl:=c.toNat_lt
      have g3:IntKind.i64.wrap (c.toNat:Int)=(c.toNat:Int):=by rw [IntKind.wrap_i64];omega
      have g4:wrap64 ((c.toNat:Int)+1)=((c.toNat+1:Nat):Int):=by rw [wrap64_id (by omega) (by omega)];omega
      clear hnext hpv hc
      generalize q+1=p at d1 g1 g2
      go_wp2_with (at_builtin;refine wpList_push _ rfl (.tmp 22) (.tmp 32) _ rfl w1.heap.size 3 i0 (.int .i64 0) 1 8 Tryz.underlying22 hi0 hz0 hz1 hz2 rfl (by decide) _ k _ rfl Hown.out rfl rfl (by simp [Value.oneCell']) (by unfold maxLen;omega) (by omega) hsz ?_;intro v2 w2 hown2 hg2 hs2 hat2)
      have hb2:=below_grown Hb.out Hown.out hg2 hsz
      clear hg2 hat2
      go_roundw
      case rel=>exact ⟨k+1,by omega,by go_num,by rw [Hnext.out,List.map_append];exact hown2,hb2⟩
      case measure=>simp [intOf];omega
  · obtain rfl:k=n+1:=by omega
    rw [List.take_of_length_le (by rw [HLl.out];exact Nat.le_refl _)] at hown
    obtain ⟨A,c,rfl,hm⟩:=made_of_own hown
    have Hm:=lhd hm
    have Hb:=lhd hb
    clear hown hm hb
    go_wp2_with fail
    go_ret
    have hz:=Hb1.out.size
    exact ⟨A,c,rs,rfl,Hs.out,by rw [HL.out];exact ⟨own_mono Hm.out.own hz,Hm.out.rd,Hm.out.cap,Hm.out.max⟩,Hb1.out.trans (Hb.out.mono hz)⟩
end Go.Proofs.YtipaccakmndkgaaGreatDoor
namespace Go.Proofs.YtipaccakmndkgaaGreatDoor
open Go.RowKit Go.Shelf
theorem least_ex (l:List (Nat×Nat)) (pos:Nat):∃z,LeastOk l pos z:=by
 have key:∀n,∃z,LeastOk (l.take n) pos z:=by
  intro n
  induction n with
  | zero=>exact ⟨-1,.inl ⟨rfl,fun x hx=>by simp at hx⟩⟩
  | succ n ih=>
    obtain ⟨z,hz⟩:=ih
    rw [List.take_add_one]
    cases h:l[n]? with
    | none=>exact ⟨z,by simpa using hz⟩
    | some x=>exact ⟨_,least_snoc hz x.1 x.2⟩
 obtain ⟨z,hz⟩:=key l.length
 rw [List.take_length] at hz
 exact ⟨z,hz⟩
theorem least_un {l:List (Nat×Nat)} {pos:Nat} {z z':Int} (h:LeastOk l pos z) (h':LeastOk l pos z'):z=z':=by
 rcases h with ⟨rfl,h1⟩|⟨x,hx,rfl,h1,h2⟩
 · rcases h' with ⟨rfl,_⟩|⟨y,hy,rfl,h3,_⟩
   · rfl
   · have:=h1 y hy
     omega
 · rcases h' with ⟨rfl,h3⟩|⟨y,hy,rfl,h3,h4⟩
   · have:=h3 x hx
     omega
   · have:=h2 y hy h3
     have:=h4 x hx h1
     omega
theorem PermNextZ_any (gp R P:Nat) (C:List (Nat×Nat)) (pos:Nat) (z:Int) (w:World) (h:PermR w gp R P C) (hz:LeastOk C pos z):
 Calls Tryz.prog 127 #[.pointer (some ⟨gp,0,none⟩),.int .i64 (pos:Int)] w fun e w'=>e=.returned (.int .i64 z)∧Below w.heap.size w w':=by
 refine (PermNextG_any gp R P C pos w h).mono ?_
 rintro e w' ⟨z',rfl,hz',hb⟩
 exact ⟨by rw [least_un hz hz'],hb⟩
theorem PermE.len {w:World} {F:Nat→Prop} {gp R P:Nat} {pr:List (Nat×Nat)} (h:PermE w F gp R P pr):pr.length≤R:=by
 have h1:(pr.map fun x=>x.1).Nodup:=by
  rw [List.Nodup,List.pairwise_map]
  exact h.2.1.imp fun {a b} hab=>Nat.ne_of_lt hab
 have h2:=ks_len (n:=R) h1 fun k hk=>by
  obtain ⟨x,hx,rfl⟩:=List.mem_map.1 hk
  exact (h.2.2 x hx).1
 simpa using h2
def Smp (pr:List (Nat×Nat)) (p:Nat):Prop:=∃x∈pr,x.2=p
structure FG (S:Nat→Prop) (r N at_:Nat) (q:Int):Prop where
 zero:S 0
 le:∀s,S s→s≤N
 at_q:q=-1∨q=((N+1:Nat):Int)∨∃s:Nat,S s∧q=(s:Int)
 fine:∀s:Nat,S s→((s:Int) < q∨at_≤s)→s+r≤N→∃s',S s'∧s < s'∧s'≤s+r
 gap2:∀s:Nat,S s→s+2*r≤N→∃s',S s'∧s < s'∧s'≤s+2*r
def GapOk (S:Nat→Prop) (r N:Nat):Prop:=∀s:Nat,S s→s+r≤N→∃s',S s'∧s < s'∧s'≤s+r
structure PreGap (S:Nat→Prop) (r N at_:Nat):Prop where
 le:∀s,S s→s≤N
 fine:∀s:Nat,(S s∨s=0)→(s+r < at_∨at_≤s)→s+r≤N→∃s',S s'∧s < s'∧s'≤s+r
 gap2:∀s:Nat,(S s∨s=0)→s+2*r≤N→∃s',S s'∧s < s'∧s'≤s+2*r
theorem FG.congr {S S':Nat→Prop} {r N at_:Nat} {q:Int} (h:FG S r N at_ q) (e:∀p,S' p↔S p):FG S' r N at_ q:=by
 have:S'=S:=funext fun p=>propext (e p)
 rw [this]
 exact h
theorem fill_start {S S0:Nat→Prop} {r N at_:Nat} {z:Int} (h:PreGap S r N at_) (h0:∀p,S0 p↔S p∨p=0) (hr:1≤r) (hz:(z=-1∧∀s,S0 s→s < at_ - 2*r)∨∃x:Nat,S0 x∧z=(x:Int)∧at_ - 2*r≤x∧∀y,S0 y→at_ - 2*r≤y→x≤y):FG S0 r N at_ z:=by
 refine ⟨(h0 0).2 (.inr rfl),fun s hs=>?_,?_,fun s hs hc hN=>?_,fun s hs hN=>?_⟩
 · rcases (h0 s).1 hs with hs | rfl
   · exact h.le s hs
   · exact Nat.zero_le _
 · rcases hz with ⟨hz,_⟩|⟨x,hx,hz,_⟩
   · exact .inl hz
   · exact .inr (.inr ⟨x,hx,hz⟩)
 · obtain ⟨s',h1,h2,h3⟩:=h.fine s ((h0 s).1 hs) (by
    rcases hc with hc | hc
    · rcases hz with ⟨hz,_⟩|⟨x,hx,hz,hx1,hx2⟩
      · omega
      · by_cases c:at_ - 2*r≤s
        · have:=hx2 s hs c
          omega
        · exact .inl (by omega)
    · exact .inr hc) hN
   exact ⟨s',(h0 s').2 (.inl h1),h2,h3⟩
 · obtain ⟨s',h1,h2,h3⟩:=h.gap2 s ((h0 s).1 hs) hN
   exact ⟨s',(h0 s').2 (.inl h1),h2,h3⟩
theorem fill_end {S:Nat→Prop} {r N at_:Nat} {q:Int} (h:FG S r N at_ q) (hq:¬q≤min (N:Int) ((at_:Int)+(r:Int))):GapOk S r N:=fun s hs hN=>by
 refine h.fine s hs ?_ hN
 have:=h.le s hs
 by_cases c:(s:Int) < q
 · exact .inl c
 · right
   omega
def NxOk (S:Nat→Prop) (N:Nat) (q nx:Int):Prop:=q < nx∧(∀s:Nat,S s→q < (s:Int)→nx≤(s:Int))∧(nx=((N+1:Nat):Int)∨∃s:Nat,S s∧nx=(s:Int))
theorem fill_next {S:Nat→Prop} {r N at_:Nat} {q nx:Int} (h:FG S r N at_ q) (hn:NxOk S N q nx) (hr:nx - q≤(r:Int)):FG S r N at_ nx:=by
 obtain ⟨n1,n2,n3⟩:=hn
 refine ⟨h.zero,h.le,.inr n3,fun s hs hc hN=>?_,h.gap2⟩
 rcases hc with hc | hc
 · by_cases c1:(s:Int) < q
   · exact h.fine s hs (.inl c1) hN
   · by_cases c2:(s:Int)=q
     · rcases n3 with n3 |⟨y,hy,n3⟩
       · omega
       · exact ⟨y,hy,by omega,by omega⟩
     · have:=n2 s hs (by omega)
       omega
 · exact h.fine s hs (.inr hc) hN
theorem fill_add {S S':Nat→Prop} {r N at_:Nat} {q nx:Int} (h:FG S r N at_ q) (hn:NxOk S N q nx) (hqN:q≤(N:Int)) (hr1:1≤r) (hr:¬nx - q≤(r:Int)):∃p:Nat,q+(r:Int)=(p:Int)∧p≤N∧¬S p∧((∀x,S' x↔x=p∨S x)→FG S' r N at_ (p:Int)):=by
 obtain ⟨n1,n2,n3⟩:=hn
 have hq:∃q0:Nat,S q0∧q=(q0:Int):=by
  rcases h.at_q with e | e | e
  · exfalso
    have:=n2 0 h.zero (by omega)
    omega
  · omega
  · exact e
 obtain ⟨q0,hq0,rfl⟩:=hq
 have hnx:nx≤((N+1:Nat):Int):=by
  rcases n3 with e |⟨y,hy,e⟩
  · omega
  · have:=h.le y hy
    omega
 refine ⟨q0+r,by omega,by omega,fun hs=>?_,fun hS=>?_⟩
 · have:=n2 _ hs (by omega)
   omega
 · have up:∀ {a b:Nat},(∃s',S s'∧a < s'∧s'≤b)→∃s',S' s'∧a < s'∧s'≤b:=fun ⟨s',h1,h2⟩=>⟨s',(hS s').2 (.inr h1),h2⟩
   have h2:q0+2*r≤N→∃s',S' s'∧q0+r < s'∧s'≤q0+2*r:=fun hN=>by
    obtain ⟨s',g1,g2,g3⟩:=h.gap2 q0 hq0 hN
    have:=n2 s' g1 (by omega)
    exact ⟨s',(hS s').2 (.inr g1),by omega,g3⟩
   refine ⟨(hS 0).2 (.inr h.zero),fun s hs=>?_,.inr (.inr ⟨q0+r,(hS _).2 (.inl rfl),rfl⟩),fun s hs hc hN=>?_,fun s hs hN=>?_⟩
   · rcases (hS s).1 hs with rfl | hs
     · omega
     · exact h.le s hs
   · rcases (hS s).1 hs with rfl | hs
     · obtain ⟨s',g1,g2,g3⟩:=h2 (by omega)
       exact ⟨s',g1,g2,by omega⟩
     · by_cases c1:s=q0
       · subst c1
         exact ⟨s+r,(hS _).2 (.inl rfl),by omega,Nat.le_refl _⟩
       · by_cases c2:(s:Int) < (q0:Int)
         · exact up (h.fine s hs (.inl c2) hN)
         · have:=n2 s hs (by omega)
           exact up (h.fine s hs (.inr (by omega)) hN)
   · rcases (hS s).1 hs with rfl | hs
     · obtain ⟨s',g1,g2,g3⟩:=h2 (by omega)
       exact ⟨s',g1,g2,by omega⟩
     · exact up (h.gap2 s hs hN)
structure TxM (w:World) (B:Nat) (own:Nat→Nat) (gl gk gp rate:Nat) (mv:Int) (S T:List Nat) (N:Nat) (rs:List Nat) (pr:List (Nat×Nat)):Prop where
 suf:IsSuf S rs
 live:LiveM w B own gl gk gp rate mv (N+1) (N+1) (lastL S rs) T pr
 tal:T.Perm (lastL S rs)
 right:∀x∈pr,rs[x.1]?=some x.2
theorem TxM.vis {w w':World} {B:Nat} {own:Nat→Nat} {gl gk gp rate:Nat} {mv:Int} {S T:List Nat} {N:Nat} {rs:List Nat} {pr:List (Nat×Nat)} (h:TxM w B own gl gk gp rate mv S T N rs pr) (k:Vis w w'):TxM w' B own gl gk gp rate mv S T N rs pr:=⟨h.suf,h.live.vis k,h.tal,h.right⟩
def AddPost (w:World) (B:Nat) (own:Nat→Nat) (gl gk gp rate:Nat) (mv:Int) (S T:List Nat) (N:Nat) (rs:List Nat) (pr:List (Nat×Nat)) (pos:Nat) (e:Ending) (w':World):Prop:=
 e=.returned (.tuple #[])∧∃own' pr',TxM w' B own' gl gk gp rate mv S T N rs pr'∧(∀p,Smp pr' p↔p=pos∨Smp pr p)∧LF B w w' own own'
theorem LAdd_any (w:World) (B:Nat) (own:Nat→Nat) (gl gk gp rate:Nat) (mv:Int) (t:List UInt8) (T:List Nat) (N:Nat) (rs:List Nat) (pr:List (Nat×Nat)) (pos:Nat) (h:TxM w B own gl gk gp rate mv (symL t) T N rs pr) (hN:t.length=N) (hn:N≤127) (hpos:pos≤N) (hnp:∀x∈pr,x.2≠pos):
 Calls Tryz.prog 142 #[.pointer (some ⟨gl,0,none⟩),.int .i64 (pos:Int)] w (AddPost w B own gl gk gp rate mv (symL t) T N rs pr pos):=by
 subst hN
 obtain ⟨r,hrl,hrp⟩:=h.suf.row (p:=pos) (by rw [symL_len];omega)
 have hrp':rs[r]?=some pos:=by rw [List.getElem?_eq_getElem hrl,hrp]
 have hrN:r < t.length+1:=by
  have:=h.suf.len
  rw [symL_len] at this
  omega
 have hrow:∀w5,VB B w w5→Calls Tryz.prog 56 #[.pointer (some ⟨gl,0,none⟩),.int .i64 (pos:Int)] w5 fun e w'=>e=.returned (.int .i64 (r:Int))∧VB B w5 w':=fun w5 hv=>by
  have h5:=h.vis hv.1
  exact LiveRowG_any B gl gk gp rate t rs pr r pos w5 (h5.live.g h5.tal) h5.right h5.suf hn hrp'
 have hnr:∀x∈pr,x.1≠r:=fun x hx e=>by
  have:=h.right x hx
  rw [e,hrp'] at this
  injection this with this
  exact hnp x hx this.symm
 have hlen:pr.length≤900:=by have:=h.live.perm.len;omega
 have H:=lhd h.live
 have HT:=lhd h
 have Hrow:=lhd hrow
 have Hnr:=lhd hnr
 have Hnp:=lhd hnp
 have Hlen:=lhd hlen
 have Hrp:=lhd hrp'
 obtain ⟨N,hN⟩:∃N,t.length=N:=⟨_,rfl⟩
 rw [hN] at hn hpos hrN
 have HN:=lhd hN
 clear h hrow hnr hnp hlen hrp hrp' hrl hN
 rw [HN.out] at H
 unfold AddPost
 go_enter Tryz.func142,Tryz.ntmps142
 go_wp2_with fail
 refine wp_region_any (by kernel_rfl) ?_
 refine wpAny_vis_tail B 8 [4,5,6,7,8,9,10,11] (fun _=>False) 100 [] (fun _=>True) (anyV) [is (.pointer (some ⟨gl,0,none⟩)),is (.pointer (some ⟨gl,0,none⟩)),is (.pointer (some ⟨gl,1,none⟩)),is (.pointer (some ⟨gp,0,none⟩)),is (.pointer (some ⟨gl,0,none⟩)),is (.int .i64 (pos:Int)),is (.int .i64 (r:Int)),is (.int .i64 (pos:Int))] _ _ rfl (by decide) (by kernel_rfl) (by kernel_rfl) (by kernel_rfl) (trivial) (fun _ _ _ _ _=>trivial) (fun _ _ _ h _=>h) (by repeat' (first | exact stbs_is _ _ | exact stbs_any _ |(refine List.forall_mem_cons.2 ⟨?_,?_⟩)|(intro p hp;cases hp))) ?_ ?_
 · refine steps_of_n ?_
   refine steps_cons (step_on3 rfl rfl fun ev _ _ _ _ _ hold _ _ _ _ hK=>?_) ?_
   · have e0:ev (.tmp 0)=.pointer (some ⟨gl,0,none⟩):=hold 0 (by kernel_rfl)
     go_simp
     exact hK _ _ (vstep_vis (VisK.refl _ _)) rfl
   refine steps_cons (step_on3 rfl rfl fun _ _ _ _ _ _ _ hval _ _ _ hK=>?_) ?_
   · have e4:_=_:=hval 0 4 (by kernel_rfl) rfl
     go_simp
     exact hK _ _ (vstep_vis (VisK.refl _ _)) rfl
   refine steps_cons (step_on3 rfl rfl fun _ _ _ _ _ _ _ hval _ _ _ hK=>?_) ?_
   · have e5:_=_:=hval 1 5 (by kernel_rfl) rfl
     go_simp
     exact hK _ _ (vstep_vis (VisK.refl _ _)) rfl
   refine steps_cons (step_on3 rfl rfl fun _ w5 hS _ _ _ _ hval _ _ _ hK=>?_) ?_
   · replace hS:VFB B (fun _=>False) w w5:=⟨⟨hS.1.os,hS.1.tape,hS.1.output,hS.1.size,hS.1.block⟩,⟨hS.2.os,hS.2.tape,hS.2.output,hS.2.size,hS.2.block⟩⟩
     have e6:_=_:=hval 2 6 (by kernel_rfl) rfl
     have c7:w5.cell? ⟨gl,1,none⟩=some (.pointer (some ⟨gp,0,none⟩)):=((H.out.vis (VFB.to_vb hS fun _ _ f=>f).1).blk.cell 1).trans rfl
     go_simp
     exact hK _ _ (vstep_vis (VisK.refl _ _)) rfl
   refine steps_cons (step_on3 rfl rfl fun ev _ _ _ _ _ hold _ _ _ _ hK=>?_) ?_
   · have e0:ev (.tmp 0)=.pointer (some ⟨gl,0,none⟩):=hold 0 (by kernel_rfl)
     go_simp
     exact hK _ _ (vstep_vis (VisK.refl _ _)) rfl
   refine steps_cons (step_on3 rfl rfl fun ev _ _ _ _ _ hold _ _ _ _ hK=>?_) ?_
   · have e1:ev (.tmp 1)=.int .i64 (pos:Int):=hold 1 (by kernel_rfl)
     go_simp
     exact hK _ _ (vstep_vis (VisK.refl _ _)) rfl
   refine steps_cons (step_on3 rfl rfl fun _ w5 hS _ _ _ _ hval _ _ _ hK=>?_) ?_
   · replace hS:VFB B (fun _=>False) w w5:=⟨⟨hS.1.os,hS.1.tape,hS.1.output,hS.1.size,hS.1.block⟩,⟨hS.2.os,hS.2.tape,hS.2.output,hS.2.size,hS.2.block⟩⟩
     have e8:_=_:=hval 4 8 (by kernel_rfl) rfl
     have e9:_=_:=hval 5 9 (by kernel_rfl) rfl
     go_simp
     refine (Hrow.out w5 (VFB.to_vb hS fun _ _ f=>f)).mono ?_
     rintro e w8 ⟨rfl,hv8⟩
     exact hK _ _ (vstep_vis hv8) rfl
   refine steps_cons (step_on3 rfl rfl fun ev _ _ _ _ _ hold _ _ _ _ hK=>?_) ?_
   · have e1:ev (.tmp 1)=.int .i64 (pos:Int):=hold 1 (by kernel_rfl)
     go_simp
     exact hK _ _ (vstep_vis (VisK.refl _ _)) rfl
   exact steps_nil
 · intro ev w6 f hS hval hall
   replace hS:VFB B (fun _=>False) w w6:=⟨⟨hS.1.os,hS.1.tape,hS.1.output,hS.1.size,hS.1.block⟩,⟨hS.2.os,hS.2.tape,hS.2.output,hS.2.size,hS.2.block⟩⟩
   have e7:ev (.tmp 7)=.pointer (some ⟨gp,0,none⟩):=hval 3 7 (by decide) rfl
   have e10:ev (.tmp 10)=.int .i64 (r:Int):=hval 6 10 (by decide) rfl
   have e11:ev (.tmp 11)=.int .i64 (pos:Int):=hval 7 11 (by decide) rfl
   simp only [putsOf,List.foldl_cons,List.foldl_nil,Act.put,List.setIfInBounds_toArray,List.set_cons_zero,List.set_cons_succ]
   rw [e7]
   rw [e10]
   rw [e11]
   clear hval
   change wpAny Tryz.prog Region.Mode.any _ _ (1+f) (firstN 8 9) _ w6
   rw [Nat.add_comm 1 f]
   refine wpAny_one (f:=f) (i:=8) (by kernel_rfl) ?_
   refine wpOp_run rfl rfl ?_
   generalize hK:wpAny Tryz.prog _ _ _ f _=K5
   go_simp
   have hv6:VB B w w6:=VFB.to_vb hS fun _ _ f=>f
   have hl6:=H.out.vis hv6.1
   refine (PermAddE_any (fun b=>own b=1) gp (N+1) (N+1) r pos pr w6 hl6.perm (by omega) (by omega) Hnr.out Hnp.out Hlen.out).mono ?_
   rintro e w8 ⟨rfl,⟨pr',hpp,hP8⟩,hk8⟩
   obtain ⟨hl8,hf8⟩:=hl6.permOp hP8 hk8
   have Hl8:=lhd hl8
   have Hf8:=lhd ((LF.of_vb (own:=own) hv6).trans hf8)
   have Hpp:=lhd hpp
   clear hl8 hf8 hpp hP8 hk8 hl6 hv6
   subst hK
   refine wpAny_all (by kernel_rfl) ?_
   go_wp2_with fail
   go_end0
   refine ⟨rfl,_,pr',⟨HT.out.suf,by rw [HN.out];exact Hl8.out,HT.out.tal,fun x hx=>?_⟩,fun p=>?_,Hf8.out⟩
   · rcases List.mem_cons.1 (Hpp.out.subset hx) with rfl | hx
     · exact Hrp.out
     · exact HT.out.right x hx
   · unfold Smp
     constructor
     · rintro ⟨x,hx,rfl⟩
       rcases List.mem_cons.1 (Hpp.out.subset hx) with rfl | hx
       · exact .inl rfl
       · exact .inr ⟨x,hx,rfl⟩
     · rintro (rfl |⟨x,hx,rfl⟩)
       · exact ⟨(r,p),Hpp.out.symm.subset (by simp),rfl⟩
       · exact ⟨x,Hpp.out.symm.subset (by simp [hx]),rfl⟩
def FillPost (w:World) (B:Nat) (own:Nat→Nat) (gl gk gp rate:Nat) (mv:Int) (S T:List Nat) (N:Nat) (rs:List Nat) (e:Ending) (w':World):Prop:=
 e=.returned (.tuple #[])∧∃own' pr',TxM w' B own' gl gk gp rate mv S T N rs pr'∧Smp pr' 0∧GapOk (Smp pr') rate N∧LF B w w' own own'
theorem least_smp {pr:List (Nat×Nat)} {pos:Nat} {z:Int} (h:LeastOk pr pos z):(z=-1∧∀s,Smp pr s→s < pos)∨∃x:Nat,Smp pr x∧z=(x:Int)∧pos≤x∧∀y,Smp pr y→pos≤y→x≤y:=by
 rcases h with ⟨h1,h2⟩|⟨x,hx,h1,h2,h3⟩
 · exact .inl ⟨h1,fun s ⟨y,hy,e⟩=>by rw [←e];exact h2 y hy⟩
 · exact .inr ⟨x.2,⟨x,hx,rfl⟩,h1,h2,fun y ⟨u,hu,e⟩ hp=>by rw [←e] at hp⊢;exact h3 u hu hp⟩
theorem nx_of_least {pr:List (Nat×Nat)} {N q1:Nat} {q z:Int} (h:LeastOk pr q1 z) (hq:q+1=(q1:Int)) (hqN:q≤(N:Int)):(z < 0→NxOk (Smp pr) N q ((N+1:Nat):Int))∧(¬z < 0→NxOk (Smp pr) N q z):=by
 rcases least_smp h with ⟨h1,h2⟩|⟨x,hx,h1,h2,h3⟩
 · refine ⟨fun _=>⟨by omega,fun s hs hlt=>?_,.inl rfl⟩,fun c=>absurd (by omega) c⟩
   have:=h2 s hs
   omega
 · refine ⟨fun c=>absurd c (by omega),fun _=>⟨by omega,fun s hs hlt=>?_,.inr ⟨x,hx,h1⟩⟩⟩
   have:=h3 s hs (by omega)
   omega
structure FillI (w0 wr:World) (B:Nat) (own0 own:Nat→Nat) (gl gk gp rate:Nat) (mv:Int) (S T:List Nat) (N at_:Nat) (rs:List Nat) (pr:List (Nat×Nat)) (q:Int):Prop where
 tx:TxM wr B own gl gk gp rate mv S T N rs pr
 fg:FG (Smp pr) rate N at_ q
 lf:LF B w0 wr own0 own
theorem TxM.lenc {w:World} {B:Nat} {own:Nat→Nat} {gl gk gp rate:Nat} {mv:Int} {t:List UInt8} {T:List Nat} {N:Nat} {rs:List Nat} {pr:List (Nat×Nat)} (h:TxM w B own gl gk gp rate mv (symL t) T N rs pr) (hN:t.length=N) (hn:N≤127):∀q:Nat,Calls Tryz.prog 54 #[.pointer (some ⟨gl,0,none⟩)] (w.drewN q) fun e w'=>e=.returned (.int .i64 (N:Int))∧∃m,w'=w.drewN m:=fun q=>by
 have h2:=h.vis (Vis.of_below (below_drewN (Below.refl _ _) q))
 have hl:(lastL (symL t) rs).length=N+1:=by rw [lastL_len,h.suf.len,symL_len,hN]
 exact (LiveLen_any B gl _ N _ (h2.live.g h2.tal).lvw hl (by omega)).mono fun e w' ⟨h1,h3⟩=>⟨h1,q,h3.symm⟩
theorem FG.ge {S:Nat→Prop} {r N at_:Nat} {q:Int} (h:FG S r N at_ q):-1≤q∧q≤((N+1:Nat):Int):=by
 rcases h.at_q with e | e |⟨s,hs,e⟩
 · omega
 · omega
 · have:=h.le s hs
   omega
theorem Fill_any (w:World) (B:Nat) (own:Nat→Nat) (gl gk gp rate:Nat) (mv:Int) (t:List UInt8) (T:List Nat) (N at_:Nat) (rs:List Nat) (pr:List (Nat×Nat)) (h:TxM w B own gl gk gp rate mv (symL t) T N rs pr) (hN:t.length=N) (hn:N≤127) (hat:at_≤N) (hr1:1≤rate) (hr2:rate≤64) (hg:PreGap (Smp pr) rate N at_):
 Calls Tryz.prog 67 #[.pointer (some ⟨gl,0,none⟩),.int .i64 (at_:Int)] w (FillPost w B own gl gk gp rate mv (symL t) T N rs):=by
 have c1:w.cell? ⟨gl,1,none⟩=some (.pointer (some ⟨gp,0,none⟩)):=(h.live.blk.cell 1).trans rfl
 have e64:IntKind.i64.wrap (2*(rate:Int))=((2*rate:Nat):Int):=by rw [IntKind.wrap_i64];omega
 have e65:IntKind.i64.wrap ((at_:Int) -((2*rate:Nat):Int))=(at_:Int) -((2*rate:Nat):Int):=by rw [IntKind.wrap_i64];omega
 have e66:IntKind.i64.wrap ((at_:Int)+(rate:Int))=(at_:Int)+(rate:Int):=by rw [IntKind.wrap_i64];omega
 have e67:wrap64 ((N:Int)+1)=((N+1:Nat):Int):=by rw [wrap64_id (by omega) (by omega)];rfl
 have H:=lhd h
 have HN:=lhd hN
 have Hg:=lhd hg
 clear h hN hg
 unfold FillPost
 go_enter Tryz.func67,Tryz.ntmps67
 by_cases h0:∃x∈pr,x.2=0
 · have hrow:=PermRowR_any gp (N+1) (N+1) pr 0 w H.out.live.permR h0
   unfold RowPostR at hrow
   have hS0:∀p,Smp pr p↔Smp pr p∨p=0:=fun p=>⟨.inl,fun h=>by
    rcases h with h | rfl
    · exact h
    · exact h0⟩
   have HS0:=lhd hS0
   clear hS0 h0
   go_wp2_with fail
   refine hrow.mono ?_
   clear hrow
   rintro e W ⟨r0,hr0,rfl,hbW⟩
   have hr0b:decide ((r0:Int) < 0)=false:=by simp
   have HX:=lhd (H.out.vis (Vis.of_below hbW))
   have HF:=lhd (LF.of_vb (B:=B) (own:=own) (VisK.of_below hbW))
   clear hbW hr0 c1 H
   go_wp2_with fail
   obtain ⟨z,hz⟩:=least_ex pr (at_ - 2*rate)
   refine wp_region_any (by kernel_rfl) ?_
   refine wpAny_loose2 [14,15,16,17,18,19,20,21,22,23,24,25,26,4] (Grow) (Vs [is (.pointer (some ⟨gl,0,none⟩)),is (.pointer (some ⟨gl,0,none⟩)),is (.pointer (some ⟨gl,1,none⟩)),is (.pointer (some ⟨gp,0,none⟩)),is (.int .i64 (at_:Int)),is (.pointer (some ⟨gl,0,none⟩)),is (.pointer (some ⟨gl,0,none⟩)),is (.pointer (some ⟨gl,2,none⟩)),is (.int .i64 (rate:Int)),is (.int .i64 ((2*rate:Nat):Int)),is (.int .i64 ((at_:Int) -((2*rate:Nat):Int))),is (.int .i64 ((at_ - 2*rate:Nat):Int)),is (.int .i64 z),is (.int .i64 z)]) _ _ rfl (by kernel_rfl) (Below.refl _ _) (fun _ _=>Grow.trans) (stbs_all (by repeat' (first | exact stbs_is _ _ | exact stbs_any _ |(refine List.forall_mem_cons.2 ⟨?_,?_⟩)|(intro p hp;cases hp)))) ?_ ?_
   · refine steps_of ?_
     refine steps_cons (step_on rfl rfl fun ev _ _ _ _ hold _ _ _ _ hK=>?_) ?_
     · have e0:ev (.tmp 0)=.pointer (some ⟨gl,0,none⟩):=hold 0 (by kernel_rfl)
       go_simp
       exact hK _ _ ((Below.refl _ _)) rfl
     refine steps_cons (step_on rfl rfl fun _ _ _ _ _ _ hval _ _ _ hK=>?_) ?_
     · have e14:_=_:=hval 0 14 (by kernel_rfl) rfl
       go_simp
       exact hK _ _ ((Below.refl _ _)) rfl
     refine steps_cons (step_on rfl rfl fun _ _ _ _ _ _ hval _ _ _ hK=>?_) ?_
     · have e15:_=_:=hval 1 15 (by kernel_rfl) rfl
       go_simp
       exact hK _ _ ((Below.refl _ _)) rfl
     refine steps_cons (step_on rfl rfl fun _ w5 hS _ _ _ hval _ _ _ hK=>?_) ?_
     · have e16:_=_:=hval 2 16 (by kernel_rfl) rfl
       replace hS:(Grow) W w5:=⟨hS.os,hS.tape,hS.output,hS.size,hS.block⟩
       have c17:w5.cell? ⟨gl,1,none⟩=some (.pointer (some ⟨gp,0,none⟩)):=((HX.out.vis (Vis.of_below hS)).live.blk.cell 1).trans rfl
       go_simp
       exact hK _ _ ((Below.refl _ _)) rfl
     refine steps_cons (step_on rfl rfl fun ev _ _ _ _ hold _ _ _ _ hK=>?_) ?_
     · have e1:ev (.tmp 1)=.int .i64 (at_:Int):=hold 1 (by kernel_rfl)
       go_simp
       exact hK _ _ ((Below.refl _ _)) rfl
     refine steps_cons (step_on rfl rfl fun ev _ _ _ _ hold _ _ _ _ hK=>?_) ?_
     · have e0:ev (.tmp 0)=.pointer (some ⟨gl,0,none⟩):=hold 0 (by kernel_rfl)
       go_simp
       exact hK _ _ ((Below.refl _ _)) rfl
     refine steps_cons (step_on rfl rfl fun _ _ _ _ _ _ hval _ _ _ hK=>?_) ?_
     · have e19:_=_:=hval 5 19 (by kernel_rfl) rfl
       go_simp
       exact hK _ _ ((Below.refl _ _)) rfl
     refine steps_cons (step_on rfl rfl fun _ _ _ _ _ _ hval _ _ _ hK=>?_) ?_
     · have e20:_=_:=hval 6 20 (by kernel_rfl) rfl
       go_simp
       exact hK _ _ ((Below.refl _ _)) rfl
     refine steps_cons (step_on rfl rfl fun _ w5 hS _ _ _ hval _ _ _ hK=>?_) ?_
     · have e21:_=_:=hval 7 21 (by kernel_rfl) rfl
       replace hS:(Grow) W w5:=⟨hS.os,hS.tape,hS.output,hS.size,hS.block⟩
       have c22:w5.cell? ⟨gl,2,none⟩=some (.int .i64 (rate:Int)):=((HX.out.vis (Vis.of_below hS)).live.blk.cell 2).trans rfl
       go_simp
       exact hK _ _ ((Below.refl _ _)) rfl
     refine steps_cons (step_on rfl rfl fun _ _ _ _ _ _ hval _ _ _ hK=>?_) ?_
     · have e22:_=_:=hval 8 22 (by kernel_rfl) rfl
       go_simp
       exact hK _ _ ((Below.refl _ _)) rfl
     refine steps_cons (step_on rfl rfl fun _ _ _ _ _ _ hval _ _ _ hK=>?_) ?_
     · have e18:_=_:=hval 4 18 (by kernel_rfl) rfl
       have e23:_=_:=hval 9 23 (by kernel_rfl) rfl
       go_simp
       exact hK _ _ (Below.refl _ _) (i64_eq (by rw [IntKind.wrap_i64];push_cast;omega))
     refine steps_cons (step_on rfl rfl fun _ _ _ _ _ _ hval _ _ _ hK=>?_) ?_
     · have e24:_=_:=hval 10 24 (by kernel_rfl) rfl
       go_simp
       exact hK _ _ (Below.refl _ _) (i64_eq (by omega))
     refine steps_cons (step_on rfl rfl fun _ w5 hS _ _ _ hval _ _ _ hK=>?_) ?_
     · have e17:_=_:=hval 3 17 (by kernel_rfl) rfl
       have e25:_=_:=hval 11 25 (by kernel_rfl) rfl
       replace hS:(Grow) W w5:=⟨hS.os,hS.tape,hS.output,hS.size,hS.block⟩
       go_simp
       refine (PermNextZ_any gp (N+1) (N+1) pr (at_ - 2*rate) z w5 (HX.out.vis (Vis.of_below hS)).live.permR hz).mono ?_
       rintro e w8 ⟨rfl,hb8⟩
       exact hK _ _ hb8 rfl
     refine steps_cons (step_on rfl rfl fun _ _ _ _ _ _ hval _ _ _ hK=>?_) ?_
     · have e26:_=_:=hval 12 26 (by kernel_rfl) rfl
       go_simp
       exact hK _ _ ((Below.refl _ _)) rfl
     exact steps_nil
   · intro ev w6 hS hval
     replace hS:(Grow) W w6:=⟨hS.os,hS.tape,hS.output,hS.size,hS.block⟩
     have e4:ev (.tmp 4)=.int .i64 z:=hval 13 4 rfl
     simp only [putsOf,List.foldl_cons,List.foldl_nil,Act.put,List.setIfInBounds_toArray,List.set_cons_zero,List.set_cons_succ]
     rw [e4]
     clear hval
     have hxW:=HX.out.vis (Vis.of_below hS)
     have hfW:=HF.out.trans (LF.of_vb (B:=B) (own:=own) (VisK.of_below hS))
     have hfg:=fill_start Hg.out HS0.out hr1 (least_smp hz)
     have HI0:=lhd (FillI.mk hxW hfg hfW)
     clear hxW hfW hfg hz hS HX HF HS0 Hg
     go_wp2_with fail
     go_loopw [4] (fun x wr=>∃(q:Int) (ownq:Nat→Nat) (prq:List (Nat×Nat)),x=.int .i64 q∧FillI w wr B own ownq gl gk gp rate mv (symL t) T N at_ rs prq q) (fun x _=>((N:Int)+2 - intOf x).toNat)
     case atStart=>exact ⟨z,_,_,rfl,HI0.out⟩
     case round=>
        clear HI0
        obtain ⟨q,ownq,prq,rfl,hI⟩:=hrel
        obtain ⟨hq1,hq2⟩:=hI.fg.ge
        have kc:=hI.tx.lenc HN.out hn
        have g1:wr.cell? ⟨gl,1,none⟩=some (.pointer (some ⟨gp,0,none⟩)):=(hI.tx.live.blk.cell 1).trans rfl
        have g2:wr.cell? ⟨gl,2,none⟩=some (.int .i64 (rate:Int)):=(hI.tx.live.blk.cell 2).trans rfl
        have hgl:=hI.tx.live.blk.lt
        obtain ⟨mn,hmn⟩:∃mn,min (N:Int) ((at_:Int)+(rate:Int))=mn:=⟨_,rfl⟩
        have HI:=lhd hI
        have Hmn:=lhd hmn
        clear hI
        by_cases hq:q≤mn
        · have hqb:decide (q≤mn)=true:=decide_eq_true hq
          obtain ⟨q1,hq1e⟩:∃q1:Nat,q+1=(q1:Int):=⟨(q+1).toNat,by omega⟩
          have hqN:q≤(N:Int):=by omega
          obtain ⟨z2,hz2⟩:=least_ex prq q1
          obtain ⟨nx1,nx2⟩:=nx_of_least (N:=N) hz2 hq1e hqN
          have e1:wrap64 (q+1)=(q1:Int):=by rw [wrap64_id (by omega) (by omega)];exact hq1e
          have Hz2:=lhd hz2
          have Hnx1:=lhd nx1
          have Hnx2:=lhd nx2
          have Hq1e:=lhd hq1e
          clear hz2 nx1 nx2
          go_wp2_with fail
          go_quiet ((with_reducible exact kc _))
          rename_i nq
          have hxq:=HI.out.tx.vis (Vis.of_below (below_drewN (Below.refl _ _) nq))
          have hnext:=PermNextZ_any gp (N+1) (N+1) prq q1 z2 (wr.drewN nq) hxq.live.permR Hz2.out
          clear hxq
          go_wp2_with fail
          refine hnext.mono ?_
          clear hnext
          rintro e w1 ⟨rfl,hb1⟩
          have hvq:VB B wr w1:=VisK.of_below ((below_drewN (Below.refl _ _) nq).trans hb1)
          have hx1:=HI.out.tx.vis hvq.1
          have hf1:=HI.out.lf.trans (LF.of_vb (own:=ownq) hvq)
          have Hx1:=lhd hx1
          have Hf1:=lhd hf1
          clear hvq hx1 hf1 hb1 kc g1 g2 hgl
          by_cases hzn:z2 < 0
          · have hznb:decide (z2 < 0)=true:=decide_eq_true hzn
            have Hnx:=lhd (Hnx1.out (by omega))
            have hlen:=Hx1.out.lenc HN.out hn 0
            clear Hnx1 Hnx2
            go_wp2_with fail
            refine hlen.mono ?_
            clear hlen
            rintro e w2 ⟨rfl,m2,rfl⟩
            have hx2:=Hx1.out.vis (Vis.of_below (below_drewN (Below.refl _ _) m2))
            have hf2:=Hf1.out.trans (LF.of_vb (B:=B) (own:=ownq) (VisK.of_below (below_drewN (Below.refl _ _) m2)))
            have Hx2:=lhd hx2
            have Hf2:=lhd hf2
            clear hx2 hf2
            generalize w1.drewN m2=w2 at Hx2 Hf2⊢
            obtain ⟨nx,hnx⟩:∃nx:Int,((N+1:Nat):Int)=nx:=⟨_,rfl⟩
            rw [hnx] at Hnx
            have e67':wrap64 ((N:Int)+1)=nx:=by rw [e67];exact hnx
            have hnl:=Hnx.out.1
            have hnN:nx≤((N+1:Nat):Int):=by
             rcases Hnx.out.2.2 with e |⟨s,hs,e⟩
             · omega
             · have:=HI.out.fg.le s hs
               omega
            have e2:IntKind.i64.wrap (nx - q)=nx - q:=by rw [IntKind.wrap_i64];omega
            have g2:w2.cell? ⟨gl,2,none⟩=some (.int .i64 (rate:Int)):=(Hx2.out.live.blk.cell 2).trans rfl
            have hgl2:=Hx2.out.live.blk.lt
            by_cases hfar:nx - q≤(rate:Int)
            · have hfarb:decide (nx - q > (rate:Int))=false:=decide_eq_false (by omega)
              have hfarc:¬(rate:Int) < nx - q:=by omega
              have hfg2:=fill_next HI.out.fg Hnx.out hfar
              have Hfg2:=lhd hfg2
              clear hfg2
              go_wp2_with fail
              go_roundw
              case rel=>exact ⟨nx,ownq,prq,by first | rfl |(congr 1 <;> omega),Hx2.out,Hfg2.out,Hf2.out⟩
              case measure=>simp [intOf];omega
            · have hfarb:decide (nx - q > (rate:Int))=true:=decide_eq_true (by omega)
              have hfarc:(rate:Int) < nx - q:=by omega
              obtain ⟨p,hp,hpN,hpS,_⟩:=fill_add (S':=Smp prq) HI.out.fg Hnx.out hqN hr1 hfar
              have e3:IntKind.i64.wrap (q+(rate:Int))=(p:Int):=by rw [IntKind.wrap_i64];omega
              have hadd:=LAdd_any w2 B ownq gl gk gp rate mv t T N rs prq p Hx2.out HN.out hn hpN (fun x hx e=>hpS ⟨x,hx,e⟩)
              unfold AddPost at hadd
              have Hp:=lhd hp
              have HpS:=lhd hpS
              clear hp hpS
              go_wp2_with fail
              refine hadd.mono ?_
              clear hadd
              rintro e w3 ⟨rfl,own3,pr3,hx3,hs3,hf3⟩
              have hfg3:FG (Smp pr3) rate N at_ (p:Int):=by
               obtain ⟨p',hp',_,_,hpF⟩:=fill_add (S':=Smp pr3) HI.out.fg Hnx.out hqN hr1 (by omega)
               have:p'=p:=by have:=Hp.out;omega
               subst this
               exact hpF hs3
              have Hfg3:=lhd hfg3
              have Hx3:=lhd hx3
              have Hf3:=lhd (Hf2.out.trans hf3)
              have Hlt:=lhd (show q < (p:Int) by have:=Hp.out;omega)
              clear hfg3 hx3 hs3 hf3
              go_wp2_with fail
              go_roundw
              case rel=>exact ⟨(p:Int),own3,pr3,rfl,Hx3.out,Hfg3.out,Hf3.out⟩
              case measure=>simp [intOf];have:=Hlt.out;omega
          · have hznb:decide (z2 < 0)=false:=decide_eq_false hzn
            have Hnx:=lhd (Hnx2.out (by omega))
            clear Hnx1 Hnx2
            obtain ⟨nx,hnx⟩:∃nx:Int,z2=nx:=⟨_,rfl⟩
            rw [hnx] at Hnx hznb⊢
            have Hx2:=Hx1
            have Hf2:=Hf1
            clear Hx1 Hf1
            generalize w1=w2 at Hx2 Hf2⊢
            have hnl:=Hnx.out.1
            have hnN:nx≤((N+1:Nat):Int):=by
             rcases Hnx.out.2.2 with e |⟨s,hs,e⟩
             · omega
             · have:=HI.out.fg.le s hs
               omega
            have e2:IntKind.i64.wrap (nx - q)=nx - q:=by rw [IntKind.wrap_i64];omega
            have g2:w2.cell? ⟨gl,2,none⟩=some (.int .i64 (rate:Int)):=(Hx2.out.live.blk.cell 2).trans rfl
            have hgl2:=Hx2.out.live.blk.lt
            by_cases hfar:nx - q≤(rate:Int)
            · have hfarb:decide (nx - q > (rate:Int))=false:=decide_eq_false (by omega)
              have hfarc:¬(rate:Int) < nx - q:=by omega
              have hfg2:=fill_next HI.out.fg Hnx.out hfar
              have Hfg2:=lhd hfg2
              clear hfg2
              go_wp2_with fail
              go_roundw
              case rel=>exact ⟨nx,ownq,prq,by first | rfl |(congr 1 <;> omega),Hx2.out,Hfg2.out,Hf2.out⟩
              case measure=>simp [intOf];omega
            · have hfarb:decide (nx - q > (rate:Int))=true:=decide_eq_true (by omega)
              have hfarc:(rate:Int) < nx - q:=by omega
              obtain ⟨p,hp,hpN,hpS,_⟩:=fill_add (S':=Smp prq) HI.out.fg Hnx.out hqN hr1 hfar
              have e3:IntKind.i64.wrap (q+(rate:Int))=(p:Int):=by rw [IntKind.wrap_i64];omega
              have hadd:=LAdd_any w2 B ownq gl gk gp rate mv t T N rs prq p Hx2.out HN.out hn hpN (fun x hx e=>hpS ⟨x,hx,e⟩)
              unfold AddPost at hadd
              have Hp:=lhd hp
              have HpS:=lhd hpS
              clear hp hpS
              go_wp2_with fail
              refine hadd.mono ?_
              clear hadd
              rintro e w3 ⟨rfl,own3,pr3,hx3,hs3,hf3⟩
              have hfg3:FG (Smp pr3) rate N at_ (p:Int):=by
               obtain ⟨p',hp',_,_,hpF⟩:=fill_add (S':=Smp pr3) HI.out.fg Hnx.out hqN hr1 (by omega)
               have:p'=p:=by have:=Hp.out;omega
               subst this
               exact hpF hs3
              have Hfg3:=lhd hfg3
              have Hx3:=lhd hx3
              have Hf3:=lhd (Hf2.out.trans hf3)
              have Hlt:=lhd (show q < (p:Int) by have:=Hp.out;omega)
              clear hfg3 hx3 hs3 hf3
              go_wp2_with fail
              go_roundw
              case rel=>exact ⟨(p:Int),own3,pr3,rfl,Hx3.out,Hfg3.out,Hf3.out⟩
              case measure=>simp [intOf];have:=Hlt.out;omega
        · have hqb:decide (q≤mn)=false:=decide_eq_false hq
          have hend:=fill_end HI.out.fg (by rw [Hmn.out];exact hq)
          have Hend:=lhd hend
          clear hend
          go_wp2_with fail
          go_quiet ((with_reducible exact kc _))
          rename_i nq
          have hvq:VB B wr (wr.drewN nq):=VisK.of_below (below_drewN (Below.refl _ _) nq)
          have hx1:=HI.out.tx.vis hvq.1
          have hf1:=HI.out.lf.trans (LF.of_vb (own:=ownq) hvq)
          have Hx1:=lhd hx1
          have Hf1:=lhd hf1
          clear hvq hx1 hf1 kc g1 g2 hgl
          go_wp2_with fail
          go_end0
          exact ⟨rfl,ownq,prq,Hx1.out,HI.out.fg.zero,Hend.out,Hf1.out⟩
 · have hrow:=PermRowR_none gp (N+1) (N+1) pr 0 w H.out.live.permR (fun x hx e=>h0 ⟨x,hx,e⟩)
   have Hno:=lhd h0
   clear h0
   go_wp2_with fail
   refine hrow.mono ?_
   clear hrow
   rintro e W0 ⟨rfl,hbW⟩
   have hx0:=H.out.vis (Vis.of_below hbW)
   have hadd:=LAdd_any W0 B own gl gk gp rate mv t T N rs pr 0 hx0 HN.out hn (Nat.zero_le _) (fun x hx e=>Hno.out ⟨x,hx,e⟩)
   unfold AddPost at hadd
   have HF0:=lhd (LF.of_vb (B:=B) (own:=own) (VisK.of_below hbW))
   clear hbW hx0 c1 H
   go_wp2_with fail
   refine hadd.mono ?_
   clear hadd
   rintro e W ⟨rfl,own1,pr1,hx1,hs1,hf1⟩
   have HX:=lhd hx1
   have HF:=lhd (HF0.out.trans hf1)
   have hS0:∀p,Smp pr1 p↔Smp pr p∨p=0:=fun p=>(hs1 p).trans Or.comm
   have HS0:=lhd hS0
   clear hS0 hx1 hs1 hf1 HF0
   go_wp2_with fail
   obtain ⟨z,hz⟩:=least_ex pr1 (at_ - 2*rate)
   refine wp_region_any (by kernel_rfl) ?_
   refine wpAny_loose2 [14,15,16,17,18,19,20,21,22,23,24,25,26,4] (Grow) (Vs [is (.pointer (some ⟨gl,0,none⟩)),is (.pointer (some ⟨gl,0,none⟩)),is (.pointer (some ⟨gl,1,none⟩)),is (.pointer (some ⟨gp,0,none⟩)),is (.int .i64 (at_:Int)),is (.pointer (some ⟨gl,0,none⟩)),is (.pointer (some ⟨gl,0,none⟩)),is (.pointer (some ⟨gl,2,none⟩)),is (.int .i64 (rate:Int)),is (.int .i64 ((2*rate:Nat):Int)),is (.int .i64 ((at_:Int) -((2*rate:Nat):Int))),is (.int .i64 ((at_ - 2*rate:Nat):Int)),is (.int .i64 z),is (.int .i64 z)]) _ _ rfl (by kernel_rfl) (Below.refl _ _) (fun _ _=>Grow.trans) (stbs_all (by repeat' (first | exact stbs_is _ _ | exact stbs_any _ |(refine List.forall_mem_cons.2 ⟨?_,?_⟩)|(intro p hp;cases hp)))) ?_ ?_
   · refine steps_of ?_
     refine steps_cons (step_on rfl rfl fun ev _ _ _ _ hold _ _ _ _ hK=>?_) ?_
     · have e0:ev (.tmp 0)=.pointer (some ⟨gl,0,none⟩):=hold 0 (by kernel_rfl)
       go_simp
       exact hK _ _ ((Below.refl _ _)) rfl
     refine steps_cons (step_on rfl rfl fun _ _ _ _ _ _ hval _ _ _ hK=>?_) ?_
     · have e14:_=_:=hval 0 14 (by kernel_rfl) rfl
       go_simp
       exact hK _ _ ((Below.refl _ _)) rfl
     refine steps_cons (step_on rfl rfl fun _ _ _ _ _ _ hval _ _ _ hK=>?_) ?_
     · have e15:_=_:=hval 1 15 (by kernel_rfl) rfl
       go_simp
       exact hK _ _ ((Below.refl _ _)) rfl
     refine steps_cons (step_on rfl rfl fun _ w5 hS _ _ _ hval _ _ _ hK=>?_) ?_
     · have e16:_=_:=hval 2 16 (by kernel_rfl) rfl
       replace hS:(Grow) W w5:=⟨hS.os,hS.tape,hS.output,hS.size,hS.block⟩
       have c17:w5.cell? ⟨gl,1,none⟩=some (.pointer (some ⟨gp,0,none⟩)):=((HX.out.vis (Vis.of_below hS)).live.blk.cell 1).trans rfl
       go_simp
       exact hK _ _ ((Below.refl _ _)) rfl
     refine steps_cons (step_on rfl rfl fun ev _ _ _ _ hold _ _ _ _ hK=>?_) ?_
     · have e1:ev (.tmp 1)=.int .i64 (at_:Int):=hold 1 (by kernel_rfl)
       go_simp
       exact hK _ _ ((Below.refl _ _)) rfl
     refine steps_cons (step_on rfl rfl fun ev _ _ _ _ hold _ _ _ _ hK=>?_) ?_
     · have e0:ev (.tmp 0)=.pointer (some ⟨gl,0,none⟩):=hold 0 (by kernel_rfl)
       go_simp
       exact hK _ _ ((Below.refl _ _)) rfl
     refine steps_cons (step_on rfl rfl fun _ _ _ _ _ _ hval _ _ _ hK=>?_) ?_
     · have e19:_=_:=hval 5 19 (by kernel_rfl) rfl
       go_simp
       exact hK _ _ ((Below.refl _ _)) rfl
     refine steps_cons (step_on rfl rfl fun _ _ _ _ _ _ hval _ _ _ hK=>?_) ?_
     · have e20:_=_:=hval 6 20 (by kernel_rfl) rfl
       go_simp
       exact hK _ _ ((Below.refl _ _)) rfl
     refine steps_cons (step_on rfl rfl fun _ w5 hS _ _ _ hval _ _ _ hK=>?_) ?_
     · have e21:_=_:=hval 7 21 (by kernel_rfl) rfl
       replace hS:(Grow) W w5:=⟨hS.os,hS.tape,hS.output,hS.size,hS.block⟩
       have c22:w5.cell? ⟨gl,2,none⟩=some (.int .i64 (rate:Int)):=((HX.out.vis (Vis.of_below hS)).live.blk.cell 2).trans rfl
       go_simp
       exact hK _ _ ((Below.refl _ _)) rfl
     refine steps_cons (step_on rfl rfl fun _ _ _ _ _ _ hval _ _ _ hK=>?_) ?_
     · have e22:_=_:=hval 8 22 (by kernel_rfl) rfl
       go_simp
       exact hK _ _ ((Below.refl _ _)) rfl
     refine steps_cons (step_on rfl rfl fun _ _ _ _ _ _ hval _ _ _ hK=>?_) ?_
     · have e18:_=_:=hval 4 18 (by kernel_rfl) rfl
       have e23:_=_:=hval 9 23 (by kernel_rfl) rfl
       go_simp
       exact hK _ _ (Below.refl _ _) (i64_eq (by rw [IntKind.wrap_i64];push_cast;omega))
     refine steps_cons (step_on rfl rfl fun _ _ _ _ _ _ hval _ _ _ hK=>?_) ?_
     · have e24:_=_:=hval 10 24 (by kernel_rfl) rfl
       go_simp
       exact hK _ _ (Below.refl _ _) (i64_eq (by omega))
     refine steps_cons (step_on rfl rfl fun _ w5 hS _ _ _ hval _ _ _ hK=>?_) ?_
     · have e17:_=_:=hval 3 17 (by kernel_rfl) rfl
       have e25:_=_:=hval 11 25 (by kernel_rfl) rfl
       replace hS:(Grow) W w5:=⟨hS.os,hS.tape,hS.output,hS.size,hS.block⟩
       go_simp
       refine (PermNextZ_any gp (N+1) (N+1) pr1 (at_ - 2*rate) z w5 (HX.out.vis (Vis.of_below hS)).live.permR hz).mono ?_
       rintro e w8 ⟨rfl,hb8⟩
       exact hK _ _ hb8 rfl
     refine steps_cons (step_on rfl rfl fun _ _ _ _ _ _ hval _ _ _ hK=>?_) ?_
     · have e26:_=_:=hval 12 26 (by kernel_rfl) rfl
       go_simp
       exact hK _ _ ((Below.refl _ _)) rfl
     exact steps_nil
   · intro ev w6 hS hval
     replace hS:(Grow) W w6:=⟨hS.os,hS.tape,hS.output,hS.size,hS.block⟩
     have e4:ev (.tmp 4)=.int .i64 z:=hval 13 4 rfl
     simp only [putsOf,List.foldl_cons,List.foldl_nil,Act.put,List.setIfInBounds_toArray,List.set_cons_zero,List.set_cons_succ]
     rw [e4]
     clear hval
     have hxW:=HX.out.vis (Vis.of_below hS)
     have hfW:=HF.out.trans (LF.of_vb (B:=B) (own:=own1) (VisK.of_below hS))
     have hfg:=fill_start Hg.out HS0.out hr1 (least_smp hz)
     have HI0:=lhd (FillI.mk hxW hfg hfW)
     clear hxW hfW hfg hz hS HX HF HS0 Hg
     go_wp2_with fail
     go_loopw [4] (fun x wr=>∃(q:Int) (ownq:Nat→Nat) (prq:List (Nat×Nat)),x=.int .i64 q∧FillI w wr B own ownq gl gk gp rate mv (symL t) T N at_ rs prq q) (fun x _=>((N:Int)+2 - intOf x).toNat)
     case atStart=>exact ⟨z,_,_,rfl,HI0.out⟩
     case round=>
        clear HI0
        obtain ⟨q,ownq,prq,rfl,hI⟩:=hrel
        obtain ⟨hq1,hq2⟩:=hI.fg.ge
        have kc:=hI.tx.lenc HN.out hn
        have g1:wr.cell? ⟨gl,1,none⟩=some (.pointer (some ⟨gp,0,none⟩)):=(hI.tx.live.blk.cell 1).trans rfl
        have g2:wr.cell? ⟨gl,2,none⟩=some (.int .i64 (rate:Int)):=(hI.tx.live.blk.cell 2).trans rfl
        have hgl:=hI.tx.live.blk.lt
        obtain ⟨mn,hmn⟩:∃mn,min (N:Int) ((at_:Int)+(rate:Int))=mn:=⟨_,rfl⟩
        have HI:=lhd hI
        have Hmn:=lhd hmn
        clear hI
        by_cases hq:q≤mn
        · have hqb:decide (q≤mn)=true:=decide_eq_true hq
          obtain ⟨q1,hq1e⟩:∃q1:Nat,q+1=(q1:Int):=⟨(q+1).toNat,by omega⟩
          have hqN:q≤(N:Int):=by omega
          obtain ⟨z2,hz2⟩:=least_ex prq q1
          obtain ⟨nx1,nx2⟩:=nx_of_least (N:=N) hz2 hq1e hqN
          have e1:wrap64 (q+1)=(q1:Int):=by rw [wrap64_id (by omega) (by omega)];exact hq1e
          have Hz2:=lhd hz2
          have Hnx1:=lhd nx1
          have Hnx2:=lhd nx2
          have Hq1e:=lhd hq1e
          clear hz2 nx1 nx2
          go_wp2_with fail
          go_quiet ((with_reducible exact kc _))
          rename_i nq
          have hxq:=HI.out.tx.vis (Vis.of_below (below_drewN (Below.refl _ _) nq))
          have hnext:=PermNextZ_any gp (N+1) (N+1) prq q1 z2 (wr.drewN nq) hxq.live.permR Hz2.out
          clear hxq
          go_wp2_with fail
          refine hnext.mono ?_
          clear hnext
          rintro e w1 ⟨rfl,hb1⟩
          have hvq:VB B wr w1:=VisK.of_below ((below_drewN (Below.refl _ _) nq).trans hb1)
          have hx1:=HI.out.tx.vis hvq.1
          have hf1:=HI.out.lf.trans (LF.of_vb (own:=ownq) hvq)
          have Hx1:=lhd hx1
          have Hf1:=lhd hf1
          clear hvq hx1 hf1 hb1 kc g1 g2 hgl
          by_cases hzn:z2 < 0
          · have hznb:decide (z2 < 0)=true:=decide_eq_true hzn
            have Hnx:=lhd (Hnx1.out (by omega))
            have hlen:=Hx1.out.lenc HN.out hn 0
            clear Hnx1 Hnx2
            go_wp2_with fail
            refine hlen.mono ?_
            clear hlen
            rintro e w2 ⟨rfl,m2,rfl⟩
            have hx2:=Hx1.out.vis (Vis.of_below (below_drewN (Below.refl _ _) m2))
            have hf2:=Hf1.out.trans (LF.of_vb (B:=B) (own:=ownq) (VisK.of_below (below_drewN (Below.refl _ _) m2)))
            have Hx2:=lhd hx2
            have Hf2:=lhd hf2
            clear hx2 hf2
            generalize w1.drewN m2=w2 at Hx2 Hf2⊢
            obtain ⟨nx,hnx⟩:∃nx:Int,((N+1:Nat):Int)=nx:=⟨_,rfl⟩
            rw [hnx] at Hnx
            have e67':wrap64 ((N:Int)+1)=nx:=by rw [e67];exact hnx
            have hnl:=Hnx.out.1
            have hnN:nx≤((N+1:Nat):Int):=by
             rcases Hnx.out.2.2 with e |⟨s,hs,e⟩
             · omega
             · have:=HI.out.fg.le s hs
               omega
            have e2:IntKind.i64.wrap (nx - q)=nx - q:=by rw [IntKind.wrap_i64];omega
            have g2:w2.cell? ⟨gl,2,none⟩=some (.int .i64 (rate:Int)):=(Hx2.out.live.blk.cell 2).trans rfl
            have hgl2:=Hx2.out.live.blk.lt
            by_cases hfar:nx - q≤(rate:Int)
            · have hfarb:decide (nx - q > (rate:Int))=false:=decide_eq_false (by omega)
              have hfarc:¬(rate:Int) < nx - q:=by omega
              have hfg2:=fill_next HI.out.fg Hnx.out hfar
              have Hfg2:=lhd hfg2
              clear hfg2
              go_wp2_with fail
              go_roundw
              case rel=>exact ⟨nx,ownq,prq,by first | rfl |(congr 1 <;> omega),Hx2.out,Hfg2.out,Hf2.out⟩
              case measure=>simp [intOf];omega
            · have hfarb:decide (nx - q > (rate:Int))=true:=decide_eq_true (by omega)
              have hfarc:(rate:Int) < nx - q:=by omega
              obtain ⟨p,hp,hpN,hpS,_⟩:=fill_add (S':=Smp prq) HI.out.fg Hnx.out hqN hr1 hfar
              have e3:IntKind.i64.wrap (q+(rate:Int))=(p:Int):=by rw [IntKind.wrap_i64];omega
              have hadd:=LAdd_any w2 B ownq gl gk gp rate mv t T N rs prq p Hx2.out HN.out hn hpN (fun x hx e=>hpS ⟨x,hx,e⟩)
              unfold AddPost at hadd
              have Hp:=lhd hp
              have HpS:=lhd hpS
              clear hp hpS
              go_wp2_with fail
              refine hadd.mono ?_
              clear hadd
              rintro e w3 ⟨rfl,own3,pr3,hx3,hs3,hf3⟩
              have hfg3:FG (Smp pr3) rate N at_ (p:Int):=by
               obtain ⟨p',hp',_,_,hpF⟩:=fill_add (S':=Smp pr3) HI.out.fg Hnx.out hqN hr1 (by omega)
               have:p'=p:=by have:=Hp.out;omega
               subst this
               exact hpF hs3
              have Hfg3:=lhd hfg3
              have Hx3:=lhd hx3
              have Hf3:=lhd (Hf2.out.trans hf3)
              have Hlt:=lhd (show q < (p:Int) by have:=Hp.out;omega)
              clear hfg3 hx3 hs3 hf3
              go_wp2_with fail
              go_roundw
              case rel=>exact ⟨(p:Int),own3,pr3,rfl,Hx3.out,Hfg3.out,Hf3.out⟩
              case measure=>simp [intOf];have:=Hlt.out;omega
          · have hznb:decide (z2 < 0)=false:=decide_eq_false hzn
            have Hnx:=lhd (Hnx2.out (by omega))
            clear Hnx1 Hnx2
            obtain ⟨nx,hnx⟩:∃nx:Int,z2=nx:=⟨_,rfl⟩
            rw [hnx] at Hnx hznb⊢
            have Hx2:=Hx1
            have Hf2:=Hf1
            clear Hx1 Hf1
            generalize w1=w2 at Hx2 Hf2⊢
            have hnl:=Hnx.out.1
            have hnN:nx≤((N+1:Nat):Int):=by
             rcases Hnx.out.2.2 with e |⟨s,hs,e⟩
             · omega
             · have:=HI.out.fg.le s hs
               omega
            have e2:IntKind.i64.wrap (nx - q)=nx - q:=by rw [IntKind.wrap_i64];omega
            have g2:w2.cell? ⟨gl,2,none⟩=some (.int .i64 (rate:Int)):=(Hx2.out.live.blk.cell 2).trans rfl
            have hgl2:=Hx2.out.live.blk.lt
            by_cases hfar:nx - q≤(rate:Int)
            · have hfarb:decide (nx - q > (rate:Int))=false:=decide_eq_false (by omega)
              have hfarc:¬(rate:Int) < nx - q:=by omega
              have hfg2:=fill_next HI.out.fg Hnx.out hfar
              have Hfg2:=lhd hfg2
              clear hfg2
              go_wp2_with fail
              go_roundw
              case rel=>exact ⟨nx,ownq,prq,by first | rfl |(congr 1 <;> omega),Hx2.out,Hfg2.out,Hf2.out⟩
              case measure=>simp [intOf];omega
            · have hfarb:decide (nx - q > (rate:Int))=true:=decide_eq_true (by omega)
              have hfarc:(rate:Int) < nx - q:=by omega
              obtain ⟨p,hp,hpN,hpS,_⟩:=fill_add (S':=Smp prq) HI.out.fg Hnx.out hqN hr1 hfar
              have e3:IntKind.i64.wrap (q+(rate:Int))=(p:Int):=by rw [IntKind.wrap_i64];omega
              have hadd:=LAdd_any w2 B ownq gl gk gp rate mv t T N rs prq p Hx2.out HN.out hn hpN (fun x hx e=>hpS ⟨x,hx,e⟩)
              unfold AddPost at hadd
              have Hp:=lhd hp
              have HpS:=lhd hpS
              clear hp hpS
              go_wp2_with fail
              refine hadd.mono ?_
              clear hadd
              rintro e w3 ⟨rfl,own3,pr3,hx3,hs3,hf3⟩
              have hfg3:FG (Smp pr3) rate N at_ (p:Int):=by
               obtain ⟨p',hp',_,_,hpF⟩:=fill_add (S':=Smp pr3) HI.out.fg Hnx.out hqN hr1 (by omega)
               have:p'=p:=by have:=Hp.out;omega
               subst this
               exact hpF hs3
              have Hfg3:=lhd hfg3
              have Hx3:=lhd hx3
              have Hf3:=lhd (Hf2.out.trans hf3)
              have Hlt:=lhd (show q < (p:Int) by have:=Hp.out;omega)
              clear hfg3 hx3 hs3 hf3
              go_wp2_with fail
              go_roundw
              case rel=>exact ⟨(p:Int),own3,pr3,rfl,Hx3.out,Hfg3.out,Hf3.out⟩
              case measure=>simp [intOf];have:=Hlt.out;omega
        · have hqb:decide (q≤mn)=false:=decide_eq_false hq
          have hend:=fill_end HI.out.fg (by rw [Hmn.out];exact hq)
          have Hend:=lhd hend
          clear hend
          go_wp2_with fail
          go_quiet ((with_reducible exact kc _))
          rename_i nq
          have hvq:VB B wr (wr.drewN nq):=VisK.of_below (below_drewN (Below.refl _ _) nq)
          have hx1:=HI.out.tx.vis hvq.1
          have hf1:=HI.out.lf.trans (LF.of_vb (own:=ownq) hvq)
          have Hx1:=lhd hx1
          have Hf1:=lhd hf1
          clear hvq hx1 hf1 kc g1 g2 hgl
          go_wp2_with fail
          go_end0
          exact ⟨rfl,ownq,prq,Hx1.out,HI.out.fg.zero,Hend.out,Hf1.out⟩
end Go.Proofs.YtipaccakmndkgaaGreatDoor
