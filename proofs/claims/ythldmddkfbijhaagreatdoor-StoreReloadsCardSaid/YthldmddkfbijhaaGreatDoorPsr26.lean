/- Lemmas of the walk. Conditions: each its own. -/
import Derived.Test.YthldmddkfbijhaaGreatDoorPsr20
import Derived.Test.YthldmddkfbijhaaGreatDoorPsr24
import Derived.Test.YthldmddkfbijhaaGreatDoorProg
import Derived.Test.YthldmddkfbijhaaGreatDoorShl
import Derived.Test.YthldmddkfbijhaaGreatDoorShi
set_option linter.all false
set_option maxRecDepth 100000
set_option maxHeartbeats 3000000
namespace Go.Proofs.YthldmddkfbijhaaGreatDoor
section
open Go.RowKit Go.Shelf
theorem rO (l:List (Nat×Nat)) (pos:Nat):∃z,eE l pos z:=by
 have key:∀n,∃z,eE (l.take n) pos z:=by
  intro n
  induction n with
  | zero=>exact ⟨-1,.inl ⟨rfl,fun x hx=>by simp at hx⟩⟩
  | succ n ih=>
    obtain ⟨z,hz⟩:=ih;rw [zAv];cases h:l[n]? with
    | none=>exact ⟨z,by simpa using hz⟩
    | some x=>exact ⟨_,xM hz x.1 x.2⟩
 obtain ⟨z,hz⟩:=key l.length;rw [List.take_length] at hz;exact ⟨z,hz⟩
theorem aIE {l:List (Nat×Nat)} {pos:Nat} {z z':Int} (h:eE l pos z) (h':eE l pos z'):z=z':=by
 rcases h with ⟨rfl,h1⟩|⟨x,hx,rfl,h1,h2⟩;rcases h' with ⟨rfl,_⟩|⟨y,hy,rfl,h3,_⟩;rfl;have:=h1 y hy;omega;rcases h' with ⟨rfl,h3⟩|⟨y,hy,rfl,h3,h4⟩;have:=h3 x hx;omega;have:=h2 y hy h3;have:=h4 x hx h1;omega
theorem iV (gp R P:Nat) (C:List (Nat×Nat)) (pos:Nat) (z:Int) (w:World) (h:PermR w gp R P C) (hz:eE C pos z):
 Calls Tryz.prog 99 #[gp,(pos:Int)] w fun e w'=>e=.returned (.int .i64 z)/\Below w.heap.size w w':=by
 refine (pP gp R P C pos w h).mono ?_;rintro e w' ⟨z',rfl,hz',hb⟩;exact ⟨by rw [aIE hz hz'],hb⟩
structure PreGap (S:Nat->Prop) (r N at_:Nat):Prop where
 le:∀s,S s->s<=N
 fine:∀s:Nat,(S s∨s=0)->(s+r < at_∨at_<=s)->s+r<=N->∃s',S s'/\s < s'/\s'<=s+r
 gap2:∀s:Nat,(S s∨s=0)->s+2*r<=N->∃s',S s'/\s < s'/\s'<=s+2*r
theorem xS {S S0:Nat->Prop} {r N at_:Nat} {z:Int} (h:PreGap S r N at_) (h0:∀p,S0 p↔S p∨p=0) (hr:1<=r) (hz:(z=-1/\∀s,S0 s->s < at_ - 2*r)∨∃x:Nat,S0 x/\z=(x:Int)/\at_ - 2*r<=x/\∀y,S0 y->at_ - 2*r<=y->x<=y):FG S0 r N at_ z:=by
 refine ⟨(h0 0).2 (.inr rfl),fun s hs=>?_,?_,fun s hs hc hN=>?_,fun s hs hN=>?_⟩;rcases (h0 s).1 hs with hs | rfl;exact h.le s hs;exact zAp _;rcases hz with ⟨hz,_⟩|⟨x,hx,hz,_⟩;exact .inl hz;exact .inr (.inr ⟨x,hx,hz⟩)
 · obtain ⟨s',h1,h2,h3⟩:=h.fine s ((h0 s).1 hs) (by
    rcases hc with hc | hc;rcases hz with ⟨hz,_⟩|⟨x,hx,hz,hx1,hx2⟩;omega;by_cases c:at_ - 2*r<=s;have:=hx2 s hs c;omega;exact .inl oM
    · exact .inr hc) hN
   exact ⟨s',(h0 s').2 (.inl h1),h2,h3⟩
 obtain ⟨s',h1,h2,h3⟩:=h.gap2 s ((h0 s).1 hs) hN;exact ⟨s',(h0 s').2 (.inl h1),h2,h3⟩
theorem aCU {S:Nat->Prop} {r N at_:Nat} {q:Int} (h:FG S r N at_ q) (hq:¬q<=min (N:Int) ((at_:Int)+(r:Int))):pS S r N:=fun s hs hN=>by
 refine h.fine s hs ?_ hN;have:=h.le s hs;by_cases c:(s:Int) < q;exact .inl c;right;omega
def aKi (S:Nat->Prop) (N:Nat) (q nx:Int):Prop:=q < nx/\(∀s:Nat,S s->q < (s:Int)->nx<=(s:Int))/\(nx=((N+1:Nat):Int)∨∃s:Nat,S s/\nx=(s:Int))
theorem oW {S:Nat->Prop} {r N at_:Nat} {q nx:Int} (h:FG S r N at_ q) (hn:aKi S N q nx) (hr:nx - q<=(r:Int)):FG S r N at_ nx:=by
 obtain ⟨n1,n2,n3⟩:=hn;refine ⟨h.zero,h.le,.inr n3,fun s hs hc hN=>?_,h.gap2⟩;rcases hc with hc | hc;by_cases c1:(s:Int) < q;exact h.fine s hs (.inl c1) hN;by_cases c2:(s:Int)=q;rcases n3 with n3 |⟨y,hy,n3⟩;omega;exact ⟨y,hy,by omega,by omega⟩;have:=n2 s hs oM;omega;exact h.fine s hs (.inr hc) hN
theorem jD {S S':Nat->Prop} {r N at_:Nat} {q nx:Int} (h:FG S r N at_ q) (hn:aKi S N q nx) (hqN:q<=(N:Int)) (hr1:1<=r) (hr:¬nx - q<=(r:Int)):∃p:Nat,q+(r:Int)=(p:Int)/\p<=N/\¬S p/\((∀x,S' x↔x=p∨S x)->FG S' r N at_ (p:Int)):=by
 obtain ⟨n1,n2,n3⟩:=hn;have hq:∃q0:Nat,S q0/\q=(q0:Int):=by rcases h.at_q with e | e | e;exfalso;have:=n2 0 h.zero oM;omega;omega;exact e
 obtain ⟨q0,hq0,rfl⟩:=hq;have hnx:nx<=((N+1:Nat):Int):=by rcases n3 with e |⟨y,hy,e⟩;omega;have:=h.le y hy;omega
 refine ⟨q0+r,by omega,by omega,fun hs=>?_,fun hS=>?_⟩;have:=n2 _ hs oM;omega
 · have up:∀ {a b:Nat},(∃s',S s'/\a < s'/\s'<=b)->∃s',S' s'/\a < s'/\s'<=b:=fun ⟨s',h1,h2⟩=>⟨s',(hS s').2 (.inr h1),h2⟩;have h2:q0+2*r<=N->∃s',S' s'/\q0+r < s'/\s'<=q0+2*r:=fun hN=>by obtain ⟨s',g1,g2,g3⟩:=h.gap2 q0 hq0 hN;have:=n2 s' g1 oM;exact ⟨s',(hS s').2 (.inr g1),by omega,g3⟩
   refine ⟨(hS 0).2 (.inr h.zero),fun s hs=>?_,.inr (.inr ⟨q0+r,(hS _).2 (.inl rfl),rfl⟩),fun s hs hc hN=>?_,fun s hs hN=>?_⟩;rcases (hS s).1 hs with rfl | hs;omega;exact h.le s hs;rcases (hS s).1 hs with rfl | hs;obtain ⟨s',g1,g2,g3⟩:=h2 oM;exact ⟨s',g1,g2,by omega⟩;by_cases c1:s=q0;subst c1;exact ⟨s+r,(hS _).2 (.inl rfl),by omega,zAs _⟩;by_cases c2:(s:Int) < (q0:Int);exact up (h.fine s hs (.inl c2) hN);have:=n2 s hs oM;exact up (h.fine s hs (.inr oM) hN);rcases (hS s).1 hs with rfl | hs;obtain ⟨s',g1,g2,g3⟩:=h2 oM;exact ⟨s',g1,g2,by omega⟩;exact up (h.gap2 s hs hN)
def nG (w:World) (B:Nat) (own:Nat->Nat) (gl gk gp rate:Nat) (mv:Int) (S T:List Nat) (N:Nat) (rs:List Nat) (pr:List (Nat×Nat)) (pos:Nat) (e:Ending) (w':World):Prop:=
 e=.returned (.tuple #[])/\∃own' pr',TxM w' B own' gl gk gp rate mv S T N rs pr'/\(∀p,Smp pr' p↔p=pos∨Smp pr p)/\LF B w w' own own'
theorem oF (w:World) (B:Nat) (own:Nat->Nat) (gl gk gp rate:Nat) (mv:Int) (t:List UInt8) (T:List Nat) (N:Nat) (rs:List Nat) (pr:List (Nat×Nat)) (pos:Nat) (h:TxM w B own gl gk gp rate mv (aG t) T N rs pr) (hN:t.length=N) (hn:N<=127) (hpos:pos<=N) (hnp:∀x∈pr,x.2≠pos):
 Calls Tryz.prog 123 #[gl,(pos:Int)] w (nG w B own gl gk gp rate mv (aG t) T N rs pr pos):=by
 subst hN;obtain ⟨r,hrl,hrp⟩:=h.suf.row (p:=pos) (by rw [aT];omega);have hrp':rs[r]?=some pos:=by rw [zAa hrl,hrp]
 have hrN:r < t.length+1:=by have:=h.suf.len;rw [aT] at this;omega
 have hrow:∀w5,VB B w w5->Calls Tryz.prog 40 #[gl,(pos:Int)] w5 fun e w'=>e=.returned (.int .i64 (r:Int))/\VB B w5 w':=fun w5 hv=>by have h5:=h.vis hv.1;exact fV B gl gk gp rate t rs pr r pos w5 (h5.live.g h5.tal) h5.right h5.suf hn hrp'
 have hnr:∀x∈pr,x.1≠r:=fun x hx e=>by have:=h.right x hx;rw [e,hrp'] at this;injection this with this;exact hnp x hx this.symm
 have hlen:pr.length<=900:=by have:=h.live.perm.len;omega
 obtain ⟨H,HT,Hrow,Hnr,Hnp,Hlen,Hrp⟩:=hqq7 h.live h hrow hnr hnp hlen hrp';obtain ⟨N,hN⟩:=eqx t.length;rw [hN] at hn hpos hrN;have HN:=lhd hN;clear h hrow hnr hnp hlen hrp hrp' hrl hN;rw [HN.out] at H;unfold nG;go_enter Tryz.func123,Tryz.ntmps123;go_wp2_with fail;refine wp_region_any kR ?_;refine bZ B 8 [4,5,6,7,8,9,10,11] (fun _=>False) 100 [] (fun _=>True) (cR) [is gl,is gl,is (.pointer (some ⟨gl,1,none⟩)),is gp,is gl,is (pos:Int),is (r:Int),is (pos:Int)] _ _ rfl dC kR kR kR (trivial) (fun _ _ _ _ _=>trivial) (fun _ _ _ h _=>h) tA1 ?_ ?_
 · refine bM ?_;refine pH3 0 (.pointer (some ⟨gl,0,none⟩)) ?_;refine pV3 0 4 ?_;refine pV3 1 5 ?_;refine sC3 (fun _ w5 hS _ _ _ _ hval _ _ _ hK=>?_) ?_
   · replace hS:VFB B (fun _=>False) w w5:=fD hS;have e6:_=_:=hval 2 6 kR rfl;have c7:w5.cell? ⟨gl,1,none⟩=some (.pointer (some ⟨gp,0,none⟩)):=((H.out.vis (VFB.to_vb hS fun _ _ f=>f).1).blk.cell 1).trans rfl;go_simp;exact hK _ _ (aK vR) rfl
   refine pH3 0 (.pointer (some ⟨gl,0,none⟩)) ?_;refine pH3 1 (.int .i64 (pos:Int)) ?_;refine sC3 (fun _ w5 hS _ _ _ _ hval _ _ _ hK=>?_) ?_
   · replace hS:VFB B (fun _=>False) w w5:=fD hS;have e8:_=_:=hval 4 8 kR rfl;have e9:_=_:=hval 5 9 kR rfl;go_simp;refine (Hrow.out w5 (VFB.to_vb hS fun _ _ f=>f)).mono ?_;rintro e w8 ⟨rfl,hv8⟩;exact hK _ _ (aK hv8) rfl
   refine pH3 1 (.int .i64 (pos:Int)) ?_;exact aC
 · intro ev w6 f hS hval hall;replace hS:VFB B (fun _=>False) w w6:=fD hS;have e7:ev (.tmp 7)=.pointer (some ⟨gp,0,none⟩):=hval 3 7 dC rfl;have e10:ev (.tmp 10)=.int .i64 (r:Int):=hval 6 10 dC rfl;have e11:ev (.tmp 11)=.int .i64 (pos:Int):=hval 7 11 dC rfl;simp only [aI,zq1,zq2,Act.put,zq3,zq4,zq5];rw [e7];rw [e10];rw [e11];clear hval;change wpAny Tryz.prog Region.Mode.any _ _ (1+f) (bV 8 9) _ w6;rw [zCs 1 f];refine aQ (f:=f) (i:=8) kR ?_;refine bW rfl rfl ?_;generalize hK:wpAny Tryz.prog _ _ _ f _=K5;go_simp;have hv6:VB B w w6:=VFB.to_vb hS fun _ _ f=>f;have hl6:=H.out.vis hv6.1;refine (aB0 (fun b=>own b=1) gp (N+1) (N+1) r pos pr w6 hl6.perm oM oM Hnr.out Hnp.out Hlen.out).mono ?_;rintro e w8 ⟨rfl,⟨pr',hpp,hP8⟩,hk8⟩;obtain ⟨hl8,hf8⟩:=hl6.permOp hP8 hk8;have Hl8:=lhd hl8;have Hf8:=lhd ((LF.of_vb (own:=own) hv6).trans hf8);have Hpp:=lhd hpp;clear hl8 hf8 hpp hP8 hk8 hl6 hv6;subst hK;refine bK kR ?_;go_wp2_with fail;go_end0;refine ⟨rfl,_,pr',⟨HT.out.suf,by rw [HN.out];exact Hl8.out,HT.out.tal,fun x hx=>?_⟩,fun p=>?_,Hf8.out⟩;rcases List.mem_cons.1 (Hpp.out.subset hx) with rfl | hx;exact Hrp.out;exact HT.out.right x hx;unfold Smp;constructor;rintro ⟨x,hx,rfl⟩;rcases List.mem_cons.1 (Hpp.out.subset hx) with rfl | hx;exact .inl rfl;exact .inr ⟨x,hx,rfl⟩;rintro (rfl |⟨x,hx,rfl⟩);exact ⟨(r,p),Hpp.out.symm.subset (by simp),rfl⟩;exact ⟨x,Hpp.out.symm.subset (by simp [hx]),rfl⟩
def sY (w:World) (B:Nat) (own:Nat->Nat) (gl gk gp rate:Nat) (mv:Int) (S T:List Nat) (N:Nat) (rs:List Nat) (e:Ending) (w':World):Prop:=
 e=.returned (.tuple #[])/\∃own' pr',TxM w' B own' gl gk gp rate mv S T N rs pr'/\Smp pr' 0/\pS (Smp pr') rate N/\LF B w w' own own'
theorem tP {pr:List (Nat×Nat)} {pos:Nat} {z:Int} (h:eE pr pos z):(z=-1/\∀s,Smp pr s->s < pos)∨∃x:Nat,Smp pr x/\z=(x:Int)/\pos<=x/\∀y,Smp pr y->pos<=y->x<=y:=by
 rcases h with ⟨h1,h2⟩|⟨x,hx,h1,h2,h3⟩;exact .inl ⟨h1,fun s ⟨y,hy,e⟩=>by rw [<-e];exact h2 y hy⟩;exact .inr ⟨x.2,⟨x,hx,rfl⟩,h1,h2,fun y ⟨u,hu,e⟩ hp=>by rw [<-e] at hp⊢;exact h3 u hu hp⟩
theorem uI {pr:List (Nat×Nat)} {N q1:Nat} {q z:Int} (h:eE pr q1 z) (hq:q+1=(q1:Int)) (hqN:q<=(N:Int)):(z < 0->aKi (Smp pr) N q ((N+1:Nat):Int))/\(¬z < 0->aKi (Smp pr) N q z):=by
 rcases tP h with ⟨h1,h2⟩|⟨x,hx,h1,h2,h3⟩;refine ⟨fun _=>⟨by omega,fun s hs hlt=>?_,.inl rfl⟩,fun c=>absurd oM c⟩;have:=h2 s hs;omega;refine ⟨fun c=>absurd c oM,fun _=>⟨by omega,fun s hs hlt=>?_,.inr ⟨x,hx,h1⟩⟩⟩;have:=h3 s hs oM;omega
structure FillI (w0 wr:World) (B:Nat) (kP own:Nat->Nat) (gl gk gp rate:Nat) (mv:Int) (S T:List Nat) (N at_:Nat) (rs:List Nat) (pr:List (Nat×Nat)) (q:Int):Prop where
 tx:TxM wr B own gl gk gp rate mv S T N rs pr
 fg:FG (Smp pr) rate N at_ q
 lf:LF B w0 wr kP own
theorem TxM.lenc {w:World} {B:Nat} {own:Nat->Nat} {gl gk gp rate:Nat} {mv:Int} {t:List UInt8} {T:List Nat} {N:Nat} {rs:List Nat} {pr:List (Nat×Nat)} (h:TxM w B own gl gk gp rate mv (aG t) T N rs pr) (hN:t.length=N) (hn:N<=127):∀q:Nat,Calls Tryz.prog 37 #[gl] (w.drewN q) fun e w'=>e=.returned (.int .i64 (N:Int))/\∃m,w'=w.drewN m:=fun q=>by
 have h2:=h.vis (Vis.of_below (below_drewN bR q));have hl:(aE (aG t) rs).length=N+1:=by rw [bU,h.suf.len,aT,hN]
 exact (cB B gl _ N _ (h2.live.g h2.tal).lvw hl oM).mono fun e w' ⟨h1,h3⟩=>⟨h1,q,h3.symm⟩
theorem FG.ge {S:Nat->Prop} {r N at_:Nat} {q:Int} (h:FG S r N at_ q):-1<=q/\q<=((N+1:Nat):Int):=by
 rcases h.at_q with e | e |⟨s,hs,e⟩;omega;omega;have:=h.le s hs;omega
theorem aDG (w:World) (B:Nat) (own:Nat->Nat) (gl gk gp rate:Nat) (mv:Int) (t:List UInt8) (T:List Nat) (N at_:Nat) (rs:List Nat) (pr:List (Nat×Nat)) (h:TxM w B own gl gk gp rate mv (aG t) T N rs pr) (hN:t.length=N) (hn:N<=127) (hat:at_<=N) (hr1:1<=rate) (hr2:rate<=64) (hg:PreGap (Smp pr) rate N at_):
 Calls Tryz.prog 63 #[gl,(at_:Int)] w (sY w B own gl gk gp rate mv (aG t) T N rs):=by
 have c1:w.cell? ⟨gl,1,none⟩=some (.pointer (some ⟨gp,0,none⟩)):=(h.live.blk.cell 1).trans rfl;have e64:IntKind.i64.wrap (2*(rate:Int))=((2*rate:Nat):Int):=by rw [IntKind.wrap_i64];omega
 have e65:IntKind.i64.wrap ((at_:Int) -((2*rate:Nat):Int))=(at_:Int) -((2*rate:Nat):Int):=by rw [IntKind.wrap_i64];omega
 have e66:IntKind.i64.wrap ((at_:Int)+(rate:Int))=(at_:Int)+(rate:Int):=by rw [IntKind.wrap_i64];omega
 have e67:wrap64 ((N:Int)+1)=((N+1:Nat):Int):=by rw [dI oM oM];rfl
 obtain ⟨H,HN,Hg⟩:=hqq3 h hN hg;clear h hN hg;unfold sY;go_enter Tryz.func63,Tryz.ntmps63;by_cases h0:∃x∈pr,x.2=0
 · have hrow:=sQ gp (N+1) (N+1) pr 0 w H.out.live.permR h0;unfold zB at hrow;have hS0:∀p,Smp pr p↔Smp pr p∨p=0:=fun p=>⟨.inl,fun h=>by
    rcases h with h | rfl;exact h
    · exact h0⟩
   have HS0:=lhd hS0;clear hS0 h0;go_wp2_with fail;refine hrow.mono ?_;clear hrow;rintro e W ⟨r0,hr0,rfl,hbW⟩;have hr0b:decide ((r0:Int) < 0)=false:=(by simp);have HX:=lhd (H.out.vis (Vis.of_below hbW));have HF:=lhd (LF.of_vb (B:=B) (own:=own) (VisK.of_below hbW));clear hbW hr0 c1 H;go_wp2_with fail;obtain ⟨z,hz⟩:=rO pr (at_ - 2*rate);refine wp_region_any kR ?_;refine aO [14,15,16,17,18,19,20,21,22,23,24,25,26,4] (Grow) (Vs [is gl,is gl,is (.pointer (some ⟨gl,1,none⟩)),is gp,is (at_:Int),is gl,is gl,is (.pointer (some ⟨gl,2,none⟩)),is (rate:Int),is (.int .i64 ((2*rate:Nat):Int)),is (.int .i64 ((at_:Int) -((2*rate:Nat):Int))),is (.int .i64 ((at_ - 2*rate:Nat):Int)),is (.int .i64 z),is (.int .i64 z)]) _ _ rfl kR bR (fun _ _=>Grow.trans) (cL tA1) ?_ ?_
   · refine aM ?_;refine pH 0 (.pointer (some ⟨gl,0,none⟩)) ?_;refine pV 0 14 ?_;refine pV 1 15 ?_;refine sC (fun _ w5 hS _ _ _ hval _ _ _ hK=>?_) ?_
     · have e16:_=_:=hval 2 16 kR rfl;replace hS:(Grow) W w5:=⟨hS.os,hS.tape,hS.output,hS.size,hS.block⟩;have c17:w5.cell? ⟨gl,1,none⟩=some (.pointer (some ⟨gp,0,none⟩)):=((HX.out.vis (Vis.of_below hS)).live.blk.cell 1).trans rfl;go_simp;exact hK _ _ bR rfl
     refine pH 1 (.int .i64 (at_:Int)) ?_;refine pH 0 (.pointer (some ⟨gl,0,none⟩)) ?_;refine pV 5 19 ?_;refine pV 6 20 ?_;refine sC (fun _ w5 hS _ _ _ hval _ _ _ hK=>?_) ?_
     · have e21:_=_:=hval 7 21 kR rfl;replace hS:(Grow) W w5:=⟨hS.os,hS.tape,hS.output,hS.size,hS.block⟩;have c22:w5.cell? ⟨gl,2,none⟩=some (.int .i64 (rate:Int)):=((HX.out.vis (Vis.of_below hS)).live.blk.cell 2).trans rfl;go_simp;exact hK _ _ bR rfl
     refine pV 8 22 ?_;refine sC (fun _ _ _ _ _ _ hval _ _ _ hK=>?_) ?_
     · have e18:_=_:=hval 4 18 kR rfl;have e23:_=_:=hval 9 23 kR rfl;go_simp;exact hK _ _ bR (dD (by rw [IntKind.wrap_i64];push_cast;omega))
     refine sC (fun _ _ _ _ _ _ hval _ _ _ hK=>?_) ?_
     · have e24:_=_:=hval 10 24 kR rfl;go_simp;exact hK _ _ bR (dD oM)
     refine sC (fun _ w5 hS _ _ _ hval _ _ _ hK=>?_) ?_
     · have e17:_=_:=hval 3 17 kR rfl;have e25:_=_:=hval 11 25 kR rfl;replace hS:(Grow) W w5:=⟨hS.os,hS.tape,hS.output,hS.size,hS.block⟩;go_simp;refine (iV gp (N+1) (N+1) pr (at_ - 2*rate) z w5 (HX.out.vis (Vis.of_below hS)).live.permR hz).mono ?_;rintro e w8 ⟨rfl,hb8⟩;exact hK _ _ hb8 rfl
     refine pV 12 26 ?_;exact aC
   · intro ev w6 hS hval;replace hS:(Grow) W w6:=⟨hS.os,hS.tape,hS.output,hS.size,hS.block⟩;have e4:ev (.tmp 4)=.int .i64 z:=hval 13 4 rfl;simp only [aI,zq1,zq2,Act.put,zq3,zq4,zq5];rw [e4];clear hval;have hxW:=HX.out.vis (Vis.of_below hS);have hfW:=HF.out.trans (LF.of_vb (B:=B) (own:=own) (VisK.of_below hS));have hfg:=xS Hg.out HS0.out hr1 (tP hz);have HI0:=lhd (FillI.mk hxW hfg hfW);clear hxW hfW hfg hz hS HX HF HS0 Hg;go_wp2_with fail;go_loopw [4] (fun x wr=>∃(q:Int) (ownq:Nat->Nat) (prq:List (Nat×Nat)),x=.int .i64 q/\FillI w wr B own ownq gl gk gp rate mv (aG t) T N at_ rs prq q) (fun x _=>((N:Int)+2 - intOf x).toNat)
     case atStart=>exact ⟨z,_,_,rfl,HI0.out⟩
     case round=>
        clear HI0;obtain ⟨q,ownq,prq,rfl,hI⟩:=hrel;obtain ⟨hq1,hq2⟩:=hI.fg.ge;have kc:=hI.tx.lenc HN.out hn;have g1:wr.cell? ⟨gl,1,none⟩=some (.pointer (some ⟨gp,0,none⟩)):=(hI.tx.live.blk.cell 1).trans rfl;have g2:wr.cell? ⟨gl,2,none⟩=some (.int .i64 (rate:Int)):=(hI.tx.live.blk.cell 2).trans rfl;have hgl:=hI.tx.live.blk.lt;obtain ⟨mn,hmn⟩:=eqx (min (N:Int) ((at_:Int)+(rate:Int)));obtain ⟨HI,Hmn⟩:=hqq2 hI hmn;clear hI;by_cases hq:q<=mn
        · have hqb:decide (q<=mn)=true:=zBz hq;obtain ⟨q1,hq1e⟩:∃q1:Nat,q+1=(q1:Int):=⟨(q+1).toNat,by omega⟩;have hqN:q<=(N:Int):=oM;obtain ⟨z2,hz2⟩:=rO prq q1;obtain ⟨nx1,nx2⟩:=uI (N:=N) hz2 hq1e hqN;have e1:wrap64 (q+1)=(q1:Int):=(by rw [dI oM oM];exact hq1e);obtain ⟨Hz2,Hnx1,Hnx2,Hq1e⟩:=hqq4 hz2 nx1 nx2 hq1e;clear hz2 nx1 nx2;go_wp2_with fail;go_quiet ((with_reducible exact kc _))
          rename_i nq
          have hxq:=HI.out.tx.vis (Vis.of_below (below_drewN bR nq));have hnext:=iV gp (N+1) (N+1) prq q1 z2 (wr.drewN nq) hxq.live.permR Hz2.out;clear hxq;go_wp2_with fail;refine hnext.mono ?_;clear hnext;rintro e w1 ⟨rfl,hb1⟩;have hvq:VB B wr w1:=VisK.of_below ((below_drewN bR nq).trans hb1);have hx1:=HI.out.tx.vis hvq.1;have hf1:=HI.out.lf.trans (LF.of_vb (own:=ownq) hvq);obtain ⟨Hx1,Hf1⟩:=hqq2 hx1 hf1;clear hvq hx1 hf1 hb1 kc g1 g2 hgl;by_cases hzn:z2 < 0
          · have hznb:decide (z2 < 0)=true:=zBz hzn;have Hnx:=lhd (Hnx1.out oM);have hlen:=Hx1.out.lenc HN.out hn 0;clear Hnx1 Hnx2;go_wp2_with fail;refine hlen.mono ?_;clear hlen;rintro e w2 ⟨rfl,m2,rfl⟩;have hx2:=Hx1.out.vis (Vis.of_below (below_drewN bR m2));have hf2:=Hf1.out.trans (LF.of_vb (B:=B) (own:=ownq) (VisK.of_below (below_drewN bR m2)));obtain ⟨Hx2,Hf2⟩:=hqq2 hx2 hf2;clear hx2 hf2;generalize w1.drewN m2=w2 at Hx2 Hf2⊢;obtain ⟨nx,hnx⟩:∃nx:Int,((N+1:Nat):Int)=nx:=⟨_,rfl⟩;rw [hnx] at Hnx;have e67':wrap64 ((N:Int)+1)=nx:=(by rw [e67];exact hnx);have hnl:=Hnx.out.1;have hnN:nx<=((N+1:Nat):Int):=(by rcases Hnx.out.2.2 with e |⟨s,hs,e⟩;omega;have:=HI.out.fg.le s hs;omega);have e2:IntKind.i64.wrap (nx - q)=nx - q:=(by rw [IntKind.wrap_i64];omega);have g2:w2.cell? ⟨gl,2,none⟩=some (.int .i64 (rate:Int)):=(Hx2.out.live.blk.cell 2).trans rfl;have hgl2:=Hx2.out.live.blk.lt;by_cases hfar:nx - q<=(rate:Int)
            · have hfarb:decide (nx - q > (rate:Int))=false:=zBy oM;have hfarc:¬(rate:Int) < nx - q:=oM;have hfg2:=oW HI.out.fg Hnx.out hfar;have Hfg2:=lhd hfg2;clear hfg2;go_wp2_with fail;go_roundw
              case rel=>exact ⟨nx,ownq,prq,by first | rfl |(congr 1 <;> omega),Hx2.out,Hfg2.out,Hf2.out⟩
              case measure=>simp [intOf];omega
            · have hfarb:decide (nx - q > (rate:Int))=true:=zBz oM;have hfarc:(rate:Int) < nx - q:=oM;obtain ⟨p,hp,hpN,hpS,_⟩:=jD (S':=Smp prq) HI.out.fg Hnx.out hqN hr1 hfar;have e3:IntKind.i64.wrap (q+(rate:Int))=(p:Int):=(by rw [IntKind.wrap_i64];omega);have hadd:=oF w2 B ownq gl gk gp rate mv t T N rs prq p Hx2.out HN.out hn hpN (fun x hx e=>hpS ⟨x,hx,e⟩);unfold nG at hadd;obtain ⟨Hp,HpS⟩:=hqq2 hp hpS;clear hp hpS;go_wp2_with fail;refine hadd.mono ?_;clear hadd;rintro e w3 ⟨rfl,own3,pr3,hx3,hs3,hf3⟩;have hfg3:FG (Smp pr3) rate N at_ (p:Int):=(by obtain ⟨p',hp',_,_,hpF⟩:=jD (S':=Smp pr3) HI.out.fg Hnx.out hqN hr1 oM;have:p'=p:=(by have:=Hp.out;omega);subst this;exact hpF hs3);obtain ⟨Hfg3,Hx3,Hf3⟩:=hqq3 hfg3 hx3 (Hf2.out.trans hf3);have Hlt:=lhd (show q < (p:Int) by have:=Hp.out;omega);clear hfg3 hx3 hs3 hf3;go_wp2_with fail;go_roundw
              case rel=>exact ⟨(p:Int),own3,pr3,rfl,Hx3.out,Hfg3.out,Hf3.out⟩
              case measure=>simp [intOf];have:=Hlt.out;omega
          · have hznb:decide (z2 < 0)=false:=zBy hzn;have Hnx:=lhd (Hnx2.out oM);clear Hnx1 Hnx2;obtain ⟨nx,hnx⟩:∃nx:Int,z2=nx:=⟨_,rfl⟩;rw [hnx] at Hnx hznb⊢;have Hx2:=Hx1;have Hf2:=Hf1;clear Hx1 Hf1;generalize w1=w2 at Hx2 Hf2⊢;have hnl:=Hnx.out.1;have hnN:nx<=((N+1:Nat):Int):=(by rcases Hnx.out.2.2 with e |⟨s,hs,e⟩;omega;have:=HI.out.fg.le s hs;omega);have e2:IntKind.i64.wrap (nx - q)=nx - q:=(by rw [IntKind.wrap_i64];omega);have g2:w2.cell? ⟨gl,2,none⟩=some (.int .i64 (rate:Int)):=(Hx2.out.live.blk.cell 2).trans rfl;have hgl2:=Hx2.out.live.blk.lt;by_cases hfar:nx - q<=(rate:Int)
            · have hfarb:decide (nx - q > (rate:Int))=false:=zBy oM;have hfarc:¬(rate:Int) < nx - q:=oM;have hfg2:=oW HI.out.fg Hnx.out hfar;have Hfg2:=lhd hfg2;clear hfg2;go_wp2_with fail;go_roundw
              case rel=>exact ⟨nx,ownq,prq,by first | rfl |(congr 1 <;> omega),Hx2.out,Hfg2.out,Hf2.out⟩
              case measure=>simp [intOf];omega
            · have hfarb:decide (nx - q > (rate:Int))=true:=zBz oM;have hfarc:(rate:Int) < nx - q:=oM;obtain ⟨p,hp,hpN,hpS,_⟩:=jD (S':=Smp prq) HI.out.fg Hnx.out hqN hr1 hfar;have e3:IntKind.i64.wrap (q+(rate:Int))=(p:Int):=(by rw [IntKind.wrap_i64];omega);have hadd:=oF w2 B ownq gl gk gp rate mv t T N rs prq p Hx2.out HN.out hn hpN (fun x hx e=>hpS ⟨x,hx,e⟩);unfold nG at hadd;obtain ⟨Hp,HpS⟩:=hqq2 hp hpS;clear hp hpS;go_wp2_with fail;refine hadd.mono ?_;clear hadd;rintro e w3 ⟨rfl,own3,pr3,hx3,hs3,hf3⟩;have hfg3:FG (Smp pr3) rate N at_ (p:Int):=(by obtain ⟨p',hp',_,_,hpF⟩:=jD (S':=Smp pr3) HI.out.fg Hnx.out hqN hr1 oM;have:p'=p:=(by have:=Hp.out;omega);subst this;exact hpF hs3);obtain ⟨Hfg3,Hx3,Hf3⟩:=hqq3 hfg3 hx3 (Hf2.out.trans hf3);have Hlt:=lhd (show q < (p:Int) by have:=Hp.out;omega);clear hfg3 hx3 hs3 hf3;go_wp2_with fail;go_roundw
              case rel=>exact ⟨(p:Int),own3,pr3,rfl,Hx3.out,Hfg3.out,Hf3.out⟩
              case measure=>simp [intOf];have:=Hlt.out;omega
        · have hqb:decide (q<=mn)=false:=zBy hq;have hend:=aCU HI.out.fg (by rw [Hmn.out];exact hq);have Hend:=lhd hend;clear hend;go_wp2_with fail;go_quiet ((with_reducible exact kc _))
          rename_i nq
          have hvq:VB B wr (wr.drewN nq):=VisK.of_below (below_drewN bR nq);have hx1:=HI.out.tx.vis hvq.1;have hf1:=HI.out.lf.trans (LF.of_vb (own:=ownq) hvq);obtain ⟨Hx1,Hf1⟩:=hqq2 hx1 hf1;clear hvq hx1 hf1 kc g1 g2 hgl;go_wp2_with fail;go_end0;exact ⟨rfl,ownq,prq,Hx1.out,HI.out.fg.zero,Hend.out,Hf1.out⟩
 · have hrow:=aAd gp (N+1) (N+1) pr 0 w H.out.live.permR (fun x hx e=>h0 ⟨x,hx,e⟩);have Hno:=lhd h0;clear h0;go_wp2_with fail;refine hrow.mono ?_;clear hrow;rintro e W0 ⟨rfl,hbW⟩;have hx0:=H.out.vis (Vis.of_below hbW);have hadd:=oF W0 B own gl gk gp rate mv t T N rs pr 0 hx0 HN.out hn (zAp _) (fun x hx e=>Hno.out ⟨x,hx,e⟩);unfold nG at hadd;have HF0:=lhd (LF.of_vb (B:=B) (own:=own) (VisK.of_below hbW));clear hbW hx0 c1 H;go_wp2_with fail;refine hadd.mono ?_;clear hadd;rintro e W ⟨rfl,own1,pr1,hx1,hs1,hf1⟩;obtain ⟨HX,HF⟩:=hqq2 hx1 (HF0.out.trans hf1);have hS0:∀p,Smp pr1 p↔Smp pr p∨p=0:=fun p=>(hs1 p).trans Or.comm;have HS0:=lhd hS0;clear hS0 hx1 hs1 hf1 HF0;go_wp2_with fail;obtain ⟨z,hz⟩:=rO pr1 (at_ - 2*rate);refine wp_region_any kR ?_;refine aO [14,15,16,17,18,19,20,21,22,23,24,25,26,4] (Grow) (Vs [is gl,is gl,is (.pointer (some ⟨gl,1,none⟩)),is gp,is (at_:Int),is gl,is gl,is (.pointer (some ⟨gl,2,none⟩)),is (rate:Int),is (.int .i64 ((2*rate:Nat):Int)),is (.int .i64 ((at_:Int) -((2*rate:Nat):Int))),is (.int .i64 ((at_ - 2*rate:Nat):Int)),is (.int .i64 z),is (.int .i64 z)]) _ _ rfl kR bR (fun _ _=>Grow.trans) (cL tA1) ?_ ?_
   · refine aM ?_;refine pH 0 (.pointer (some ⟨gl,0,none⟩)) ?_;refine pV 0 14 ?_;refine pV 1 15 ?_;refine sC (fun _ w5 hS _ _ _ hval _ _ _ hK=>?_) ?_
     · have e16:_=_:=hval 2 16 kR rfl;replace hS:(Grow) W w5:=⟨hS.os,hS.tape,hS.output,hS.size,hS.block⟩;have c17:w5.cell? ⟨gl,1,none⟩=some (.pointer (some ⟨gp,0,none⟩)):=((HX.out.vis (Vis.of_below hS)).live.blk.cell 1).trans rfl;go_simp;exact hK _ _ bR rfl
     refine pH 1 (.int .i64 (at_:Int)) ?_;refine pH 0 (.pointer (some ⟨gl,0,none⟩)) ?_;refine pV 5 19 ?_;refine pV 6 20 ?_;refine sC (fun _ w5 hS _ _ _ hval _ _ _ hK=>?_) ?_
     · have e21:_=_:=hval 7 21 kR rfl;replace hS:(Grow) W w5:=⟨hS.os,hS.tape,hS.output,hS.size,hS.block⟩;have c22:w5.cell? ⟨gl,2,none⟩=some (.int .i64 (rate:Int)):=((HX.out.vis (Vis.of_below hS)).live.blk.cell 2).trans rfl;go_simp;exact hK _ _ bR rfl
     refine pV 8 22 ?_;refine sC (fun _ _ _ _ _ _ hval _ _ _ hK=>?_) ?_
     · have e18:_=_:=hval 4 18 kR rfl;have e23:_=_:=hval 9 23 kR rfl;go_simp;exact hK _ _ bR (dD (by rw [IntKind.wrap_i64];push_cast;omega))
     refine sC (fun _ _ _ _ _ _ hval _ _ _ hK=>?_) ?_
     · have e24:_=_:=hval 10 24 kR rfl;go_simp;exact hK _ _ bR (dD oM)
     refine sC (fun _ w5 hS _ _ _ hval _ _ _ hK=>?_) ?_
     · have e17:_=_:=hval 3 17 kR rfl;have e25:_=_:=hval 11 25 kR rfl;replace hS:(Grow) W w5:=⟨hS.os,hS.tape,hS.output,hS.size,hS.block⟩;go_simp;refine (iV gp (N+1) (N+1) pr1 (at_ - 2*rate) z w5 (HX.out.vis (Vis.of_below hS)).live.permR hz).mono ?_;rintro e w8 ⟨rfl,hb8⟩;exact hK _ _ hb8 rfl
     refine pV 12 26 ?_;exact aC
   · intro ev w6 hS hval;replace hS:(Grow) W w6:=⟨hS.os,hS.tape,hS.output,hS.size,hS.block⟩;have e4:ev (.tmp 4)=.int .i64 z:=hval 13 4 rfl;simp only [aI,zq1,zq2,Act.put,zq3,zq4,zq5];rw [e4];clear hval;have hxW:=HX.out.vis (Vis.of_below hS);have hfW:=HF.out.trans (LF.of_vb (B:=B) (own:=own1) (VisK.of_below hS));have hfg:=xS Hg.out HS0.out hr1 (tP hz);have HI0:=lhd (FillI.mk hxW hfg hfW);clear hxW hfW hfg hz hS HX HF HS0 Hg;go_wp2_with fail;go_loopw [4] (fun x wr=>∃(q:Int) (ownq:Nat->Nat) (prq:List (Nat×Nat)),x=.int .i64 q/\FillI w wr B own ownq gl gk gp rate mv (aG t) T N at_ rs prq q) (fun x _=>((N:Int)+2 - intOf x).toNat)
     case atStart=>exact ⟨z,_,_,rfl,HI0.out⟩
     case round=>
        clear HI0;obtain ⟨q,ownq,prq,rfl,hI⟩:=hrel;obtain ⟨hq1,hq2⟩:=hI.fg.ge;have kc:=hI.tx.lenc HN.out hn;have g1:wr.cell? ⟨gl,1,none⟩=some (.pointer (some ⟨gp,0,none⟩)):=(hI.tx.live.blk.cell 1).trans rfl;have g2:wr.cell? ⟨gl,2,none⟩=some (.int .i64 (rate:Int)):=(hI.tx.live.blk.cell 2).trans rfl;have hgl:=hI.tx.live.blk.lt;obtain ⟨mn,hmn⟩:=eqx (min (N:Int) ((at_:Int)+(rate:Int)));obtain ⟨HI,Hmn⟩:=hqq2 hI hmn;clear hI;by_cases hq:q<=mn
        · have hqb:decide (q<=mn)=true:=zBz hq;obtain ⟨q1,hq1e⟩:∃q1:Nat,q+1=(q1:Int):=⟨(q+1).toNat,by omega⟩;have hqN:q<=(N:Int):=oM;obtain ⟨z2,hz2⟩:=rO prq q1;obtain ⟨nx1,nx2⟩:=uI (N:=N) hz2 hq1e hqN;have e1:wrap64 (q+1)=(q1:Int):=(by rw [dI oM oM];exact hq1e);obtain ⟨Hz2,Hnx1,Hnx2,Hq1e⟩:=hqq4 hz2 nx1 nx2 hq1e;clear hz2 nx1 nx2;go_wp2_with fail;go_quiet ((with_reducible exact kc _))
          rename_i nq
          have hxq:=HI.out.tx.vis (Vis.of_below (below_drewN bR nq));have hnext:=iV gp (N+1) (N+1) prq q1 z2 (wr.drewN nq) hxq.live.permR Hz2.out;clear hxq;go_wp2_with fail;refine hnext.mono ?_;clear hnext;rintro e w1 ⟨rfl,hb1⟩;have hvq:VB B wr w1:=VisK.of_below ((below_drewN bR nq).trans hb1);have hx1:=HI.out.tx.vis hvq.1;have hf1:=HI.out.lf.trans (LF.of_vb (own:=ownq) hvq);obtain ⟨Hx1,Hf1⟩:=hqq2 hx1 hf1;clear hvq hx1 hf1 hb1 kc g1 g2 hgl;by_cases hzn:z2 < 0
          · have hznb:decide (z2 < 0)=true:=zBz hzn;have Hnx:=lhd (Hnx1.out oM);have hlen:=Hx1.out.lenc HN.out hn 0;clear Hnx1 Hnx2;go_wp2_with fail;refine hlen.mono ?_;clear hlen;rintro e w2 ⟨rfl,m2,rfl⟩;have hx2:=Hx1.out.vis (Vis.of_below (below_drewN bR m2));have hf2:=Hf1.out.trans (LF.of_vb (B:=B) (own:=ownq) (VisK.of_below (below_drewN bR m2)));obtain ⟨Hx2,Hf2⟩:=hqq2 hx2 hf2;clear hx2 hf2;generalize w1.drewN m2=w2 at Hx2 Hf2⊢;obtain ⟨nx,hnx⟩:∃nx:Int,((N+1:Nat):Int)=nx:=⟨_,rfl⟩;rw [hnx] at Hnx;have e67':wrap64 ((N:Int)+1)=nx:=(by rw [e67];exact hnx);have hnl:=Hnx.out.1;have hnN:nx<=((N+1:Nat):Int):=(by rcases Hnx.out.2.2 with e |⟨s,hs,e⟩;omega;have:=HI.out.fg.le s hs;omega);have e2:IntKind.i64.wrap (nx - q)=nx - q:=(by rw [IntKind.wrap_i64];omega);have g2:w2.cell? ⟨gl,2,none⟩=some (.int .i64 (rate:Int)):=(Hx2.out.live.blk.cell 2).trans rfl;have hgl2:=Hx2.out.live.blk.lt;by_cases hfar:nx - q<=(rate:Int)
            · have hfarb:decide (nx - q > (rate:Int))=false:=zBy oM;have hfarc:¬(rate:Int) < nx - q:=oM;have hfg2:=oW HI.out.fg Hnx.out hfar;have Hfg2:=lhd hfg2;clear hfg2;go_wp2_with fail;go_roundw
              case rel=>exact ⟨nx,ownq,prq,by first | rfl |(congr 1 <;> omega),Hx2.out,Hfg2.out,Hf2.out⟩
              case measure=>simp [intOf];omega
            · have hfarb:decide (nx - q > (rate:Int))=true:=zBz oM;have hfarc:(rate:Int) < nx - q:=oM;obtain ⟨p,hp,hpN,hpS,_⟩:=jD (S':=Smp prq) HI.out.fg Hnx.out hqN hr1 hfar;have e3:IntKind.i64.wrap (q+(rate:Int))=(p:Int):=(by rw [IntKind.wrap_i64];omega);have hadd:=oF w2 B ownq gl gk gp rate mv t T N rs prq p Hx2.out HN.out hn hpN (fun x hx e=>hpS ⟨x,hx,e⟩);unfold nG at hadd;obtain ⟨Hp,HpS⟩:=hqq2 hp hpS;clear hp hpS;go_wp2_with fail;refine hadd.mono ?_;clear hadd;rintro e w3 ⟨rfl,own3,pr3,hx3,hs3,hf3⟩;have hfg3:FG (Smp pr3) rate N at_ (p:Int):=(by obtain ⟨p',hp',_,_,hpF⟩:=jD (S':=Smp pr3) HI.out.fg Hnx.out hqN hr1 oM;have:p'=p:=(by have:=Hp.out;omega);subst this;exact hpF hs3);obtain ⟨Hfg3,Hx3,Hf3⟩:=hqq3 hfg3 hx3 (Hf2.out.trans hf3);have Hlt:=lhd (show q < (p:Int) by have:=Hp.out;omega);clear hfg3 hx3 hs3 hf3;go_wp2_with fail;go_roundw
              case rel=>exact ⟨(p:Int),own3,pr3,rfl,Hx3.out,Hfg3.out,Hf3.out⟩
              case measure=>simp [intOf];have:=Hlt.out;omega
          · have hznb:decide (z2 < 0)=false:=zBy hzn;have Hnx:=lhd (Hnx2.out oM);clear Hnx1 Hnx2;obtain ⟨nx,hnx⟩:∃nx:Int,z2=nx:=⟨_,rfl⟩;rw [hnx] at Hnx hznb⊢;have Hx2:=Hx1;have Hf2:=Hf1;clear Hx1 Hf1;generalize w1=w2 at Hx2 Hf2⊢;have hnl:=Hnx.out.1;have hnN:nx<=((N+1:Nat):Int):=(by rcases Hnx.out.2.2 with e |⟨s,hs,e⟩;omega;have:=HI.out.fg.le s hs;omega);have e2:IntKind.i64.wrap (nx - q)=nx - q:=(by rw [IntKind.wrap_i64];omega);have g2:w2.cell? ⟨gl,2,none⟩=some (.int .i64 (rate:Int)):=(Hx2.out.live.blk.cell 2).trans rfl;have hgl2:=Hx2.out.live.blk.lt;by_cases hfar:nx - q<=(rate:Int)
            · have hfarb:decide (nx - q > (rate:Int))=false:=zBy oM;have hfarc:¬(rate:Int) < nx - q:=oM;have hfg2:=oW HI.out.fg Hnx.out hfar;have Hfg2:=lhd hfg2;clear hfg2;go_wp2_with fail;go_roundw
              case rel=>exact ⟨nx,ownq,prq,by first | rfl |(congr 1 <;> omega),Hx2.out,Hfg2.out,Hf2.out⟩
              case measure=>simp [intOf];omega
            · have hfarb:decide (nx - q > (rate:Int))=true:=zBz oM;have hfarc:(rate:Int) < nx - q:=oM;obtain ⟨p,hp,hpN,hpS,_⟩:=jD (S':=Smp prq) HI.out.fg Hnx.out hqN hr1 hfar;have e3:IntKind.i64.wrap (q+(rate:Int))=(p:Int):=(by rw [IntKind.wrap_i64];omega);have hadd:=oF w2 B ownq gl gk gp rate mv t T N rs prq p Hx2.out HN.out hn hpN (fun x hx e=>hpS ⟨x,hx,e⟩);unfold nG at hadd;obtain ⟨Hp,HpS⟩:=hqq2 hp hpS;clear hp hpS;go_wp2_with fail;refine hadd.mono ?_;clear hadd;rintro e w3 ⟨rfl,own3,pr3,hx3,hs3,hf3⟩;have hfg3:FG (Smp pr3) rate N at_ (p:Int):=(by obtain ⟨p',hp',_,_,hpF⟩:=jD (S':=Smp pr3) HI.out.fg Hnx.out hqN hr1 oM;have:p'=p:=(by have:=Hp.out;omega);subst this;exact hpF hs3);obtain ⟨Hfg3,Hx3,Hf3⟩:=hqq3 hfg3 hx3 (Hf2.out.trans hf3);have Hlt:=lhd (show q < (p:Int) by have:=Hp.out;omega);clear hfg3 hx3 hs3 hf3;go_wp2_with fail;go_roundw
              case rel=>exact ⟨(p:Int),own3,pr3,rfl,Hx3.out,Hfg3.out,Hf3.out⟩
              case measure=>simp [intOf];have:=Hlt.out;omega
        · have hqb:decide (q<=mn)=false:=zBy hq;have hend:=aCU HI.out.fg (by rw [Hmn.out];exact hq);have Hend:=lhd hend;clear hend;go_wp2_with fail;go_quiet ((with_reducible exact kc _))
          rename_i nq
          have hvq:VB B wr (wr.drewN nq):=VisK.of_below (below_drewN bR nq);have hx1:=HI.out.tx.vis hvq.1;have hf1:=HI.out.lf.trans (LF.of_vb (own:=ownq) hvq);obtain ⟨Hx1,Hf1⟩:=hqq2 hx1 hf1;clear hvq hx1 hf1 kc g1 g2 hgl;go_wp2_with fail;go_end0;exact ⟨rfl,ownq,prq,Hx1.out,HI.out.fg.zero,Hend.out,Hf1.out⟩
end
section
theorem aHI (t:List UInt8) {k:Nat} (b:UInt8) (h:k<=t.length):aG (aU t k b)=aU (aG t) k (b.toNat+1):=by
 unfold aG dF aU;rw [zAz,List.map_cons,List.map_take,List.map_drop,List.take_append_of_le_length (by simpa using h),List.drop_append_of_le_length (by simpa using h)];simp
theorem aHJ (t:List UInt8) {k:Nat} (h:k < t.length):aG (aF t k)=aF (aG t) k:=by
 unfold aG dF aF;rw [zAz,List.map_take,List.map_drop,List.take_append_of_le_length (by simp;omega),List.drop_append_of_le_length (by simp;omega)];simp
theorem aHH (t:List UInt8) {k:Nat} (b:UInt8) (h:k < t.length):aG (t.set k b)=(aG t).set k (b.toNat+1):=by
 unfold aG dF;rw [List.map_set];exact (List.set_append_left _ _ (by simpa using h)).symm
theorem wS {L:List Nat} {k s old:Nat} (h:L[k]?=some old):(old::L.set k s).Perm (s::L):=by
 obtain ⟨hk,e⟩:=zAc.1 h;have h1:L.set k s=L.take k++s::L.drop (k+1):=List.set_eq_take_append_cons_drop .. |>.trans (by rw [zBx hk]);have h2:L=L.take k++old::L.drop (k+1):=by
  conv=>lhs;rw [<-zAu k L]
  rw [zAx hk,e]
 rw [h1]
 conv=>rhs;rw [h2]
 refine ((List.perm_middle).cons old).trans ?_;refine (List.Perm.swap s old _).trans ?_;exact ((List.perm_middle).symm.cons s)
section
variable {S S' : Nat -> Prop} {r N at_ : Nat}
theorem aEi (hg:pS S r N) (h0:S 0) (hle:∀s,S s->s<=N) (hr:1<=r) (hat:at_<=N) (hS:∀p,S' p↔∃s,S s/\p=sh at_ s):PreGap S' r (N+1) at_:=by
 have mk:∀s,S s->S' (sh at_ s):=fun s hs=>(hS _).2 ⟨s,hs,rfl⟩;have hz:S' 0∨(at_=0/\S' 1):=by by_cases c:at_=0;right;have:=mk 0 h0;unfold sh at this;rw [zBw oM] at this;exact ⟨c,this⟩;left;have:=mk 0 h0;unfold sh at this;rw [zBx oM] at this;exact this
 refine ⟨fun p hp=>?_,fun p hp hc hN=>?_,fun p hp hN=>?_⟩
 · obtain ⟨s,hs,rfl⟩:=(hS p).1 hp;have:=hle s hs;unfold sh;split <;> omega
 by_cases hp':S' p;obtain ⟨s,hs,rfl⟩:=(hS p).1 hp';unfold sh at hc hN⊢;by_cases c:s < at_;rw [zBx c] at hc hN⊢;obtain ⟨u,hu,h1,h2⟩:=hg s hs oM;have:=mk u hu;unfold sh at this;rw [zBx oM] at this;exact ⟨u,this,h1,h2⟩;rw [zBw c] at hc hN⊢;obtain ⟨u,hu,h1,h2⟩:=hg s hs oM;have:=mk u hu;unfold sh at this;rw [zBw oM] at this;exact ⟨u+1,this,by omega,by omega⟩;have e:p=0:=hp.resolve_left hp';subst e;rcases hz with h |⟨_,h⟩;exact absurd h hp';exact ⟨1,h,by omega,by omega⟩;by_cases hp':S' p;obtain ⟨s,hs,rfl⟩:=(hS p).1 hp';unfold sh at hN⊢;by_cases c:s < at_;rw [zBx c] at hN⊢;obtain ⟨u,hu,h1,h2⟩:=hg s hs oM;have:=mk u hu;unfold sh at this;by_cases c2:u < at_;rw [zBx c2] at this;exact ⟨u,this,h1,by omega⟩;rw [zBw c2] at this;exact ⟨u+1,this,by omega,by omega⟩;rw [zBw c] at hN⊢;obtain ⟨u,hu,h1,h2⟩:=hg s hs oM;have:=mk u hu;unfold sh at this;rw [zBw oM] at this;exact ⟨u+1,this,by omega,by omega⟩;have e:p=0:=hp.resolve_left hp';subst e;rcases hz with h |⟨_,h⟩;exact absurd h hp';exact ⟨1,h,by omega,by omega⟩
theorem aEj (hg:pS S r (N+1)) (h0:S 0) (hle:∀s,S s->s<=N+1) (hr:1<=r) (hat:at_<=N) (hS:∀p,S' p↔∃s,S s/\s≠at_/\p=ush at_ s):PreGap S' r N at_:=by
 have mk:∀s,S s->s≠at_->S' (ush at_ s):=fun s hs hne=>(hS _).2 ⟨s,hs,hne,rfl⟩;have lt:∀s,S s->s < at_->S' s:=fun s hs hlt=>by have:=mk s hs oM;unfold ush at this;rwa [zBx hlt] at this
 have gt:∀s,S s->at_ < s->S' (s - 1):=fun s hs hlt=>by have:=mk s hs oM;unfold ush at this;rwa [zBw oM] at this
 have hz:¬S' 0->1<=N+1 - 0->0+r<=N+1->∃u,S' u/\0 < u/\u+1<=r:=fun hn _ hN=>by
  have ha:at_=0:=by by_cases c:at_=0;exact c;exact absurd (lt 0 h0 oM) hn
  obtain ⟨u,hu,h1,h2⟩:=hg 0 h0 hN;have h3:=gt u hu oM;by_cases c:u=1;subst c;exact absurd h3 hn;exact ⟨u - 1,h3,by omega,by omega⟩
 refine ⟨fun p hp=>?_,fun p hp hc hN=>?_,fun p hp hN=>?_⟩
 · obtain ⟨s,hs,hne,rfl⟩:=(hS p).1 hp;have:=hle s hs;unfold ush;split <;> omega
 by_cases hp':S' p;obtain ⟨s,hs,hne,rfl⟩:=(hS p).1 hp';unfold ush at hc hN⊢;by_cases c:s < at_;rw [zBx c] at hc hN⊢;obtain ⟨u,hu,h1,h2⟩:=hg s hs oM;exact ⟨u,lt u hu oM,h1,h2⟩;rw [zBw c] at hc hN⊢;obtain ⟨u,hu,h1,h2⟩:=hg s hs oM;exact ⟨u - 1,gt u hu oM,by omega,by omega⟩;have e:p=0:=hp.resolve_left hp';subst e;obtain ⟨u,h1,h2,h3⟩:=hz hp' oM oM;exact ⟨u,h1,h2,by omega⟩;by_cases hp':S' p;obtain ⟨s,hs,hne,rfl⟩:=(hS p).1 hp';unfold ush at hN⊢;by_cases c:s < at_;rw [zBx c] at hN⊢;obtain ⟨u,hu,h1,h2⟩:=hg s hs oM;rcases Nat.lt_trichotomy u at_ with c2 | c2 | c2;exact ⟨u,lt u hu c2,h1,by omega⟩;subst c2;obtain ⟨v,hv,h3,h4⟩:=hg u hu oM;exact ⟨v - 1,gt v hv h3,by omega,by omega⟩;exact ⟨u - 1,gt u hu c2,by omega,by omega⟩;rw [zBw c] at hN⊢;obtain ⟨u,hu,h1,h2⟩:=hg s hs oM;exact ⟨u - 1,gt u hu oM,by omega,by omega⟩;have e:p=0:=hp.resolve_left hp';subst e;obtain ⟨u,h1,h2,h3⟩:=hz hp' oM oM;exact ⟨u,h1,h2,by omega⟩
end
end
end Go.Proofs.YthldmddkfbijhaaGreatDoor
