/- Parts of the walk, joined from several texts. Conditions: what each lemma says. -/
import Derived.Test.YtnhmjomhloainaaGreatDoorPq31
set_option linter.all false
set_option maxRecDepth 100000
set_option maxHeartbeats 4000000
namespace Go.Proofs.YtnhmjomhloainaaGreatDoor
open Go.RowKit Go.Shelf
theorem pS (l:List (Nat×Nat)) (pos:Nat):∃z,dY l pos z:=by
 have key:∀n,∃z,dY (l.take n) pos z:=by
  intro n
  induction n with
  | zero=>exact ⟨-1,.inl ⟨rfl,fun x hx=>by simp at hx⟩⟩
  | succ n ih=>
    obtain ⟨z,hz⟩:=ih;rw [zAv];cases h:l[n]? with
    | none=>exact ⟨z,by simpa using hz⟩
    | some x=>exact ⟨_,uU hz x.1 x.2⟩
 obtain ⟨z,hz⟩:=key l.length;rw [List.take_length] at hz;exact ⟨z,hz⟩
theorem aGs {l:List (Nat×Nat)} {pos:Nat} {z z':Int} (h:dY l pos z) (h':dY l pos z'):z=z':=by
 rcases h with ⟨rfl,h1⟩|⟨x,hx,rfl,h1,h2⟩;rcases h' with ⟨rfl,_⟩|⟨y,hy,rfl,h3,_⟩;rfl;have:=h1 y hy;omega;rcases h' with ⟨rfl,h3⟩|⟨y,hy,rfl,h3,h4⟩;have:=h3 x hx;omega;have:=h2 y hy h3;have:=h4 x hx h1;omega
theorem gW (gp R P:Nat) (C:List (Nat×Nat)) (pos:Nat) (z:Int) (w:World) (h:PermR w gp R P C) (hz:dY C pos z):
 Calls Tryz.prog 124 #[.pointer (some ⟨gp,0,none⟩),.int .i64 (pos:Int)] w fun e w'=>e=.returned (.int .i64 z)/\Below w.heap.size w w':=by
 refine (oE gp R P C pos w h).mono ?_;rintro e w' ⟨z',rfl,hz',hb⟩;exact ⟨by rw [aGs hz hz'],hb⟩
theorem PermE.len {w:World} {F:Nat->Prop} {gp R P:Nat} {pr:List (Nat×Nat)} (h:PermE w F gp R P pr):pr.length<=R:=by
 have h1:(pr.map fun x=>x.1).Nodup:=by rw [List.Nodup,List.pairwise_map];exact h.2.1.imp fun {a b} hab=>Nat.ne_of_lt hab
 have h2:=fZ (n:=R) h1 fun k hk=>by obtain ⟨x,hx,rfl⟩:=zAy.1 hk;exact (h.2.2 x hx).1
 simpa using h2
def Smp (pr:List (Nat×Nat)) (p:Nat):Prop:=∃x∈pr,x.2=p
structure FG (S:Nat->Prop) (r N at_:Nat) (q:Int):Prop where
 zero:S 0
 le:∀s,S s->s<=N
 at_q:q=-1∨q=((N+1:Nat):Int)∨∃s:Nat,S s/\q=(s:Int)
 fine:∀s:Nat,S s->((s:Int) < q∨at_<=s)->s+r<=N->∃s',S s'/\s < s'/\s'<=s+r
 gap2:∀s:Nat,S s->s+2*r<=N->∃s',S s'/\s < s'/\s'<=s+2*r
def zG (S:Nat->Prop) (r N:Nat):Prop:=∀s:Nat,S s->s+r<=N->∃s',S s'/\s < s'/\s'<=s+r
structure PreGap (S:Nat->Prop) (r N at_:Nat):Prop where
 le:∀s,S s->s<=N
 fine:∀s:Nat,(S s∨s=0)->(s+r < at_∨at_<=s)->s+r<=N->∃s',S s'/\s < s'/\s'<=s+r
 gap2:∀s:Nat,(S s∨s=0)->s+2*r<=N->∃s',S s'/\s < s'/\s'<=s+2*r
theorem FG.congr {S S':Nat->Prop} {r N at_:Nat} {q:Int} (h:FG S r N at_ q) (e:∀p,S' p↔S p):FG S' r N at_ q:=by
 have:S'=S:=funext fun p=>propext (e p);rw [this];exact h
theorem vB {S S0:Nat->Prop} {r N at_:Nat} {z:Int} (h:PreGap S r N at_) (h0:∀p,S0 p↔S p∨p=0) (hr:1<=r) (hz:(z=-1/\∀s,S0 s->s < at_ - 2*r)∨∃x:Nat,S0 x/\z=(x:Int)/\at_ - 2*r<=x/\∀y,S0 y->at_ - 2*r<=y->x<=y):FG S0 r N at_ z:=by
 refine ⟨(h0 0).2 (.inr rfl),fun s hs=>?_,?_,fun s hs hc hN=>?_,fun s hs hN=>?_⟩;rcases (h0 s).1 hs with hs | rfl;exact h.le s hs;exact zAp _;rcases hz with ⟨hz,_⟩|⟨x,hx,hz,_⟩;exact .inl hz;exact .inr (.inr ⟨x,hx,hz⟩)
 · obtain ⟨s',h1,h2,h3⟩:=h.fine s ((h0 s).1 hs) (by
    rcases hc with hc | hc;rcases hz with ⟨hz,_⟩|⟨x,hx,hz,hx1,hx2⟩;omega;by_cases c:at_ - 2*r<=s;have:=hx2 s hs c;omega;exact .inl oM
    · exact .inr hc) hN
   exact ⟨s',(h0 s').2 (.inl h1),h2,h3⟩
 obtain ⟨s',h1,h2,h3⟩:=h.gap2 s ((h0 s).1 hs) hN;exact ⟨s',(h0 s').2 (.inl h1),h2,h3⟩
theorem aBz {S:Nat->Prop} {r N at_:Nat} {q:Int} (h:FG S r N at_ q) (hq:¬q<=min (N:Int) ((at_:Int)+(r:Int))):zG S r N:=fun s hs hN=>by
 refine h.fine s hs ?_ hN;have:=h.le s hs;by_cases c:(s:Int) < q;exact .inl c;right;omega
def aHZ (S:Nat->Prop) (N:Nat) (q nx:Int):Prop:=q < nx/\(∀s:Nat,S s->q < (s:Int)->nx<=(s:Int))/\(nx=((N+1:Nat):Int)∨∃s:Nat,S s/\nx=(s:Int))
theorem nM {S:Nat->Prop} {r N at_:Nat} {q nx:Int} (h:FG S r N at_ q) (hn:aHZ S N q nx) (hr:nx - q<=(r:Int)):FG S r N at_ nx:=by
 obtain ⟨n1,n2,n3⟩:=hn;refine ⟨h.zero,h.le,.inr n3,fun s hs hc hN=>?_,h.gap2⟩;rcases hc with hc | hc;by_cases c1:(s:Int) < q;exact h.fine s hs (.inl c1) hN;by_cases c2:(s:Int)=q;rcases n3 with n3 |⟨y,hy,n3⟩;omega;exact ⟨y,hy,by omega,by omega⟩;have:=n2 s hs oM;omega;exact h.fine s hs (.inr hc) hN
theorem iD {S S':Nat->Prop} {r N at_:Nat} {q nx:Int} (h:FG S r N at_ q) (hn:aHZ S N q nx) (hqN:q<=(N:Int)) (hr1:1<=r) (hr:¬nx - q<=(r:Int)):∃p:Nat,q+(r:Int)=(p:Int)/\p<=N/\¬S p/\((∀x,S' x↔x=p∨S x)->FG S' r N at_ (p:Int)):=by
 obtain ⟨n1,n2,n3⟩:=hn;have hq:∃q0:Nat,S q0/\q=(q0:Int):=by rcases h.at_q with e | e | e;exfalso;have:=n2 0 h.zero oM;omega;omega;exact e
 obtain ⟨q0,hq0,rfl⟩:=hq;have hnx:nx<=((N+1:Nat):Int):=by rcases n3 with e |⟨y,hy,e⟩;omega;have:=h.le y hy;omega
 refine ⟨q0+r,by omega,by omega,fun hs=>?_,fun hS=>?_⟩;have:=n2 _ hs oM;omega
 · have up:∀ {a b:Nat},(∃s',S s'/\a < s'/\s'<=b)->∃s',S' s'/\a < s'/\s'<=b:=fun ⟨s',h1,h2⟩=>⟨s',(hS s').2 (.inr h1),h2⟩;have h2:q0+2*r<=N->∃s',S' s'/\q0+r < s'/\s'<=q0+2*r:=fun hN=>by obtain ⟨s',g1,g2,g3⟩:=h.gap2 q0 hq0 hN;have:=n2 s' g1 oM;exact ⟨s',(hS s').2 (.inr g1),by omega,g3⟩
   refine ⟨(hS 0).2 (.inr h.zero),fun s hs=>?_,.inr (.inr ⟨q0+r,(hS _).2 (.inl rfl),rfl⟩),fun s hs hc hN=>?_,fun s hs hN=>?_⟩;rcases (hS s).1 hs with rfl | hs;omega;exact h.le s hs;rcases (hS s).1 hs with rfl | hs;obtain ⟨s',g1,g2,g3⟩:=h2 oM;exact ⟨s',g1,g2,by omega⟩;by_cases c1:s=q0;subst c1;exact ⟨s+r,(hS _).2 (.inl rfl),by omega,zAs _⟩;by_cases c2:(s:Int) < (q0:Int);exact up (h.fine s hs (.inl c2) hN);have:=n2 s hs oM;exact up (h.fine s hs (.inr oM) hN);rcases (hS s).1 hs with rfl | hs;obtain ⟨s',g1,g2,g3⟩:=h2 oM;exact ⟨s',g1,g2,by omega⟩;exact up (h.gap2 s hs hN)
structure TxM (w:World) (B:Nat) (own:Nat->Nat) (gl gk gp rate:Nat) (mv:Int) (S T:List Nat) (N:Nat) (rs:List Nat) (pr:List (Nat×Nat)):Prop where
 suf:IsSuf S rs
 live:LiveM w B own gl gk gp rate mv (N+1) (N+1) (aE S rs) T pr
 tal:T.Perm (aE S rs)
 right:∀x∈pr,rs[x.1]?=some x.2
theorem TxM.vis {w w':World} {B:Nat} {own:Nat->Nat} {gl gk gp rate:Nat} {mv:Int} {S T:List Nat} {N:Nat} {rs:List Nat} {pr:List (Nat×Nat)} (h:TxM w B own gl gk gp rate mv S T N rs pr) (k:Vis w w'):TxM w' B own gl gk gp rate mv S T N rs pr:=⟨h.suf,h.live.vis k,h.tal,h.right⟩
def lN (w:World) (B:Nat) (own:Nat->Nat) (gl gk gp rate:Nat) (mv:Int) (S T:List Nat) (N:Nat) (rs:List Nat) (pr:List (Nat×Nat)) (pos:Nat) (e:Ending) (w':World):Prop:=
 e=.returned (.tuple #[])/\∃own' pr',TxM w' B own' gl gk gp rate mv S T N rs pr'/\(∀p,Smp pr' p↔p=pos∨Smp pr p)/\LF B w w' own own'
theorem mR (w:World) (B:Nat) (own:Nat->Nat) (gl gk gp rate:Nat) (mv:Int) (t:List UInt8) (T:List Nat) (N:Nat) (rs:List Nat) (pr:List (Nat×Nat)) (pos:Nat) (h:TxM w B own gl gk gp rate mv (aD t) T N rs pr) (hN:t.length=N) (hn:N<=127) (hpos:pos<=N) (hnp:∀x∈pr,x.2≠pos):
 Calls Tryz.prog 141 #[.pointer (some ⟨gl,0,none⟩),.int .i64 (pos:Int)] w (lN w B own gl gk gp rate mv (aD t) T N rs pr pos):=by
 subst hN;obtain ⟨r,hrl,hrp⟩:=h.suf.row (p:=pos) (by rw [aJ];omega);have hrp':rs[r]?=some pos:=by rw [zAa hrl,hrp]
 have hrN:r < t.length+1:=by have:=h.suf.len;rw [aJ] at this;omega
 have hrow:∀w5,VB B w w5->Calls Tryz.prog 57 #[.pointer (some ⟨gl,0,none⟩),.int .i64 (pos:Int)] w5 fun e w'=>e=.returned (.int .i64 (r:Int))/\VB B w5 w':=fun w5 hv=>by have h5:=h.vis hv.1;exact gG B gl gk gp rate t rs pr r pos w5 (h5.live.g h5.tal) h5.right h5.suf hn hrp'
 have hnr:∀x∈pr,x.1≠r:=fun x hx e=>by have:=h.right x hx;rw [e,hrp'] at this;injection this with this;exact hnp x hx this.symm
 have hlen:pr.length<=900:=by have:=h.live.perm.len;omega
 obtain ⟨H,HT,Hrow,Hnr,Hnp,Hlen,Hrp⟩:=hqq7 h.live h hrow hnr hnp hlen hrp';obtain ⟨N,hN⟩:=eqx t.length;rw [hN] at hn hpos hrN;have HN:=lhd hN;clear h hrow hnr hnp hlen hrp hrp' hrl hN;rw [HN.out] at H;unfold lN;go_enter Tryz.func141,Tryz.ntmps141;go_wp2_with fail;refine wp_region_any kR ?_;refine cK B 8 [4,5,6,7,8,9,10,11] (fun _=>False) 100 [] (fun _=>True) (dJ) [is (.pointer (some ⟨gl,0,none⟩)),is (.pointer (some ⟨gl,0,none⟩)),is (.pointer (some ⟨gl,1,none⟩)),is (.pointer (some ⟨gp,0,none⟩)),is (.pointer (some ⟨gl,0,none⟩)),is (.int .i64 (pos:Int)),is (.int .i64 (r:Int)),is (.int .i64 (pos:Int))] _ _ rfl dC kR kR kR (trivial) (fun _ _ _ _ _=>trivial) (fun _ _ _ h _=>h) (by repeat' (first | exact cA _ _ | exact bS _ |(refine zAe.2 ⟨?_,?_⟩)|(intro p hp;cases hp))) ?_ ?_
 · refine cC ?_;refine pH3 0 (.pointer (some ⟨gl,0,none⟩)) ?_;refine pV3 0 4 ?_;refine pV3 1 5 ?_;refine sC3 (fun _ w5 hS _ _ _ _ hval _ _ _ hK=>?_) ?_
   · replace hS:VFB B (fun _=>False) w w5:=fD hS;have e6:_=_:=hval 2 6 kR rfl;have c7:w5.cell? ⟨gl,1,none⟩=some (.pointer (some ⟨gp,0,none⟩)):=((H.out.vis (VFB.to_vb hS fun _ _ f=>f).1).blk.cell 1).trans rfl;go_simp;exact hK _ _ (aH vR) rfl
   refine pH3 0 (.pointer (some ⟨gl,0,none⟩)) ?_;refine pH3 1 (.int .i64 (pos:Int)) ?_;refine sC3 (fun _ w5 hS _ _ _ _ hval _ _ _ hK=>?_) ?_
   · replace hS:VFB B (fun _=>False) w w5:=fD hS;have e8:_=_:=hval 4 8 kR rfl;have e9:_=_:=hval 5 9 kR rfl;go_simp;refine (Hrow.out w5 (VFB.to_vb hS fun _ _ f=>f)).mono ?_;rintro e w8 ⟨rfl,hv8⟩;exact hK _ _ (aH hv8) rfl
   refine pH3 1 (.int .i64 (pos:Int)) ?_;exact aG
 · intro ev w6 f hS hval hall;replace hS:VFB B (fun _=>False) w w6:=fD hS;have e7:ev (.tmp 7)=.pointer (some ⟨gp,0,none⟩):=hval 3 7 dC rfl;have e10:ev (.tmp 10)=.int .i64 (r:Int):=hval 6 10 dC rfl;have e11:ev (.tmp 11)=.int .i64 (pos:Int):=hval 7 11 dC rfl;simp only [aO,zq1,zq2,Act.put,zq3,zq4,zq5];rw [e7];rw [e10];rw [e11];clear hval;change wpAny Tryz.prog Region.Mode.any _ _ (1+f) (cF 8 9) _ w6;rw [zCq 1 f];refine bZ (f:=f) (i:=8) kR ?_;refine cJ rfl rfl ?_;generalize hK:wpAny Tryz.prog _ _ _ f _=K5;go_simp;have hv6:VB B w w6:=VFB.to_vb hS fun _ _ f=>f;have hl6:=H.out.vis hv6.1;refine (aAK (fun b=>own b=1) gp (N+1) (N+1) r pos pr w6 hl6.perm oM oM Hnr.out Hnp.out Hlen.out).mono ?_;rintro e w8 ⟨rfl,⟨pr',hpp,hP8⟩,hk8⟩;obtain ⟨hl8,hf8⟩:=hl6.permOp hP8 hk8;have Hl8:=lhd hl8;have Hf8:=lhd ((LF.of_vb (own:=own) hv6).trans hf8);have Hpp:=lhd hpp;clear hl8 hf8 hpp hP8 hk8 hl6 hv6;subst hK;refine cM kR ?_;go_wp2_with fail;go_end0;refine ⟨rfl,_,pr',⟨HT.out.suf,by rw [HN.out];exact Hl8.out,HT.out.tal,fun x hx=>?_⟩,fun p=>?_,Hf8.out⟩;rcases List.mem_cons.1 (Hpp.out.subset hx) with rfl | hx;exact Hrp.out;exact HT.out.right x hx;unfold Smp;constructor;rintro ⟨x,hx,rfl⟩;rcases List.mem_cons.1 (Hpp.out.subset hx) with rfl | hx;exact .inl rfl;exact .inr ⟨x,hx,rfl⟩;rintro (rfl |⟨x,hx,rfl⟩);exact ⟨(r,p),Hpp.out.symm.subset (by simp),rfl⟩;exact ⟨x,Hpp.out.symm.subset (by simp [hx]),rfl⟩
def qT (w:World) (B:Nat) (own:Nat->Nat) (gl gk gp rate:Nat) (mv:Int) (S T:List Nat) (N:Nat) (rs:List Nat) (e:Ending) (w':World):Prop:=
 e=.returned (.tuple #[])/\∃own' pr',TxM w' B own' gl gk gp rate mv S T N rs pr'/\Smp pr' 0/\zG (Smp pr') rate N/\LF B w w' own own'
theorem rH {pr:List (Nat×Nat)} {pos:Nat} {z:Int} (h:dY pr pos z):(z=-1/\∀s,Smp pr s->s < pos)∨∃x:Nat,Smp pr x/\z=(x:Int)/\pos<=x/\∀y,Smp pr y->pos<=y->x<=y:=by
 rcases h with ⟨h1,h2⟩|⟨x,hx,h1,h2,h3⟩;exact .inl ⟨h1,fun s ⟨y,hy,e⟩=>by rw [<-e];exact h2 y hy⟩;exact .inr ⟨x.2,⟨x,hx,rfl⟩,h1,h2,fun y ⟨u,hu,e⟩ hp=>by rw [<-e] at hp⊢;exact h3 u hu hp⟩
theorem sD {pr:List (Nat×Nat)} {N q1:Nat} {q z:Int} (h:dY pr q1 z) (hq:q+1=(q1:Int)) (hqN:q<=(N:Int)):(z < 0->aHZ (Smp pr) N q ((N+1:Nat):Int))/\(¬z < 0->aHZ (Smp pr) N q z):=by
 rcases rH h with ⟨h1,h2⟩|⟨x,hx,h1,h2,h3⟩;refine ⟨fun _=>⟨by omega,fun s hs hlt=>?_,.inl rfl⟩,fun c=>absurd oM c⟩;have:=h2 s hs;omega;refine ⟨fun c=>absurd c oM,fun _=>⟨by omega,fun s hs hlt=>?_,.inr ⟨x,hx,h1⟩⟩⟩;have:=h3 s hs oM;omega
structure FillI (w0 wr:World) (B:Nat) (jB own:Nat->Nat) (gl gk gp rate:Nat) (mv:Int) (S T:List Nat) (N at_:Nat) (rs:List Nat) (pr:List (Nat×Nat)) (q:Int):Prop where
 tx:TxM wr B own gl gk gp rate mv S T N rs pr
 fg:FG (Smp pr) rate N at_ q
 lf:LF B w0 wr jB own
theorem TxM.lenc {w:World} {B:Nat} {own:Nat->Nat} {gl gk gp rate:Nat} {mv:Int} {t:List UInt8} {T:List Nat} {N:Nat} {rs:List Nat} {pr:List (Nat×Nat)} (h:TxM w B own gl gk gp rate mv (aD t) T N rs pr) (hN:t.length=N) (hn:N<=127):∀q:Nat,Calls Tryz.prog 55 #[.pointer (some ⟨gl,0,none⟩)] (w.drewN q) fun e w'=>e=.returned (.int .i64 (N:Int))/\∃m,w'=w.drewN m:=fun q=>by
 have h2:=h.vis (Vis.of_below (below_drewN bR q));have hl:(aE (aD t) rs).length=N+1:=by rw [bJ,h.suf.len,aJ,hN]
 exact (bQ B gl _ N _ (h2.live.g h2.tal).lvw hl oM).mono fun e w' ⟨h1,h3⟩=>⟨h1,q,h3.symm⟩
theorem FG.ge {S:Nat->Prop} {r N at_:Nat} {q:Int} (h:FG S r N at_ q):-1<=q/\q<=((N+1:Nat):Int):=by
 rcases h.at_q with e | e |⟨s,hs,e⟩;omega;omega;have:=h.le s hs;omega
theorem aCf (w:World) (B:Nat) (own:Nat->Nat) (gl gk gp rate:Nat) (mv:Int) (t:List UInt8) (T:List Nat) (N at_:Nat) (rs:List Nat) (pr:List (Nat×Nat)) (h:TxM w B own gl gk gp rate mv (aD t) T N rs pr) (hN:t.length=N) (hn:N<=127) (hat:at_<=N) (hr1:1<=rate) (hr2:rate<=64) (hg:PreGap (Smp pr) rate N at_):
 Calls Tryz.prog 68 #[.pointer (some ⟨gl,0,none⟩),.int .i64 (at_:Int)] w (qT w B own gl gk gp rate mv (aD t) T N rs):=by
 have c1:w.cell? ⟨gl,1,none⟩=some (.pointer (some ⟨gp,0,none⟩)):=(h.live.blk.cell 1).trans rfl;have e64:IntKind.i64.wrap (2*(rate:Int))=((2*rate:Nat):Int):=by rw [IntKind.wrap_i64];omega
 have e65:IntKind.i64.wrap ((at_:Int) -((2*rate:Nat):Int))=(at_:Int) -((2*rate:Nat):Int):=by rw [IntKind.wrap_i64];omega
 have e66:IntKind.i64.wrap ((at_:Int)+(rate:Int))=(at_:Int)+(rate:Int):=by rw [IntKind.wrap_i64];omega
 have e67:wrap64 ((N:Int)+1)=((N+1:Nat):Int):=by rw [dL oM oM];rfl
 obtain ⟨H,HN,Hg⟩:=hqq3 h hN hg;clear h hN hg;unfold qT;go_enter Tryz.func68,Tryz.ntmps68;by_cases h0:∃x∈pr,x.2=0
 · have hrow:=qN gp (N+1) (N+1) pr 0 w H.out.live.permR h0;unfold wR at hrow;have hS0:∀p,Smp pr p↔Smp pr p∨p=0:=fun p=>⟨.inl,fun h=>by
    rcases h with h | rfl;exact h
    · exact h0⟩
   have HS0:=lhd hS0;clear hS0 h0;go_wp2_with fail;refine hrow.mono ?_;clear hrow;rintro e W ⟨r0,hr0,rfl,hbW⟩;have hr0b:decide ((r0:Int) < 0)=false:=(by simp);have HX:=lhd (H.out.vis (Vis.of_below hbW));have HF:=lhd (LF.of_vb (B:=B) (own:=own) (VisK.of_below hbW));clear hbW hr0 c1 H;go_wp2_with fail;obtain ⟨z,hz⟩:=pS pr (at_ - 2*rate);refine wp_region_any kR ?_;refine aX [14,15,16,17,18,19,20,21,22,23,24,25,26,4] (Grow) (Vs [is (.pointer (some ⟨gl,0,none⟩)),is (.pointer (some ⟨gl,0,none⟩)),is (.pointer (some ⟨gl,1,none⟩)),is (.pointer (some ⟨gp,0,none⟩)),is (.int .i64 (at_:Int)),is (.pointer (some ⟨gl,0,none⟩)),is (.pointer (some ⟨gl,0,none⟩)),is (.pointer (some ⟨gl,2,none⟩)),is (.int .i64 (rate:Int)),is (.int .i64 ((2*rate:Nat):Int)),is (.int .i64 ((at_:Int) -((2*rate:Nat):Int))),is (.int .i64 ((at_ - 2*rate:Nat):Int)),is (.int .i64 z),is (.int .i64 z)]) _ _ rfl kR bR (fun _ _=>Grow.trans) (cY (by repeat' (first | exact cA _ _ | exact bS _ |(refine zAe.2 ⟨?_,?_⟩)|(intro p hp;cases hp)))) ?_ ?_
   · refine aT ?_;refine pH 0 (.pointer (some ⟨gl,0,none⟩)) ?_;refine pV 0 14 ?_;refine pV 1 15 ?_;refine sC (fun _ w5 hS _ _ _ hval _ _ _ hK=>?_) ?_
     · have e16:_=_:=hval 2 16 kR rfl;replace hS:(Grow) W w5:=⟨hS.os,hS.tape,hS.output,hS.size,hS.block⟩;have c17:w5.cell? ⟨gl,1,none⟩=some (.pointer (some ⟨gp,0,none⟩)):=((HX.out.vis (Vis.of_below hS)).live.blk.cell 1).trans rfl;go_simp;exact hK _ _ bR rfl
     refine pH 1 (.int .i64 (at_:Int)) ?_;refine pH 0 (.pointer (some ⟨gl,0,none⟩)) ?_;refine pV 5 19 ?_;refine pV 6 20 ?_;refine sC (fun _ w5 hS _ _ _ hval _ _ _ hK=>?_) ?_
     · have e21:_=_:=hval 7 21 kR rfl;replace hS:(Grow) W w5:=⟨hS.os,hS.tape,hS.output,hS.size,hS.block⟩;have c22:w5.cell? ⟨gl,2,none⟩=some (.int .i64 (rate:Int)):=((HX.out.vis (Vis.of_below hS)).live.blk.cell 2).trans rfl;go_simp;exact hK _ _ bR rfl
     refine pV 8 22 ?_;refine sC (fun _ _ _ _ _ _ hval _ _ _ hK=>?_) ?_
     · have e18:_=_:=hval 4 18 kR rfl;have e23:_=_:=hval 9 23 kR rfl;go_simp;exact hK _ _ bR (eB (by rw [IntKind.wrap_i64];push_cast;omega))
     refine sC (fun _ _ _ _ _ _ hval _ _ _ hK=>?_) ?_
     · have e24:_=_:=hval 10 24 kR rfl;go_simp;exact hK _ _ bR (eB oM)
     refine sC (fun _ w5 hS _ _ _ hval _ _ _ hK=>?_) ?_
     · have e17:_=_:=hval 3 17 kR rfl;have e25:_=_:=hval 11 25 kR rfl;replace hS:(Grow) W w5:=⟨hS.os,hS.tape,hS.output,hS.size,hS.block⟩;go_simp;refine (gW gp (N+1) (N+1) pr (at_ - 2*rate) z w5 (HX.out.vis (Vis.of_below hS)).live.permR hz).mono ?_;rintro e w8 ⟨rfl,hb8⟩;exact hK _ _ hb8 rfl
     refine pV 12 26 ?_;exact aG
   · intro ev w6 hS hval;replace hS:(Grow) W w6:=⟨hS.os,hS.tape,hS.output,hS.size,hS.block⟩;have e4:ev (.tmp 4)=.int .i64 z:=hval 13 4 rfl;simp only [aO,zq1,zq2,Act.put,zq3,zq4,zq5];rw [e4];clear hval;have hxW:=HX.out.vis (Vis.of_below hS);have hfW:=HF.out.trans (LF.of_vb (B:=B) (own:=own) (VisK.of_below hS));have hfg:=vB Hg.out HS0.out hr1 (rH hz);have HI0:=lhd (FillI.mk hxW hfg hfW);clear hxW hfW hfg hz hS HX HF HS0 Hg;go_wp2_with fail;go_loopw [4] (fun x wr=>∃(q:Int) (ownq:Nat->Nat) (prq:List (Nat×Nat)),x=.int .i64 q/\FillI w wr B own ownq gl gk gp rate mv (aD t) T N at_ rs prq q) (fun x _=>((N:Int)+2 - intOf x).toNat)
     case atStart=>exact ⟨z,_,_,rfl,HI0.out⟩
     case round=>
        clear HI0;obtain ⟨q,ownq,prq,rfl,hI⟩:=hrel;obtain ⟨hq1,hq2⟩:=hI.fg.ge;have kc:=hI.tx.lenc HN.out hn;have g1:wr.cell? ⟨gl,1,none⟩=some (.pointer (some ⟨gp,0,none⟩)):=(hI.tx.live.blk.cell 1).trans rfl;have g2:wr.cell? ⟨gl,2,none⟩=some (.int .i64 (rate:Int)):=(hI.tx.live.blk.cell 2).trans rfl;have hgl:=hI.tx.live.blk.lt;obtain ⟨mn,hmn⟩:=eqx (min (N:Int) ((at_:Int)+(rate:Int)));obtain ⟨HI,Hmn⟩:=hqq2 hI hmn;clear hI;by_cases hq:q<=mn
        · have hqb:decide (q<=mn)=true:=zBz hq;obtain ⟨q1,hq1e⟩:∃q1:Nat,q+1=(q1:Int):=⟨(q+1).toNat,by omega⟩;have hqN:q<=(N:Int):=oM;obtain ⟨z2,hz2⟩:=pS prq q1;obtain ⟨nx1,nx2⟩:=sD (N:=N) hz2 hq1e hqN;have e1:wrap64 (q+1)=(q1:Int):=(by rw [dL oM oM];exact hq1e);obtain ⟨Hz2,Hnx1,Hnx2,Hq1e⟩:=hqq4 hz2 nx1 nx2 hq1e;clear hz2 nx1 nx2;go_wp2_with fail;go_quiet ((with_reducible exact kc _))
          rename_i nq
          have hxq:=HI.out.tx.vis (Vis.of_below (below_drewN bR nq));have hnext:=gW gp (N+1) (N+1) prq q1 z2 (wr.drewN nq) hxq.live.permR Hz2.out;clear hxq;go_wp2_with fail;refine hnext.mono ?_;clear hnext;rintro e w1 ⟨rfl,hb1⟩;have hvq:VB B wr w1:=VisK.of_below ((below_drewN bR nq).trans hb1);have hx1:=HI.out.tx.vis hvq.1;have hf1:=HI.out.lf.trans (LF.of_vb (own:=ownq) hvq);obtain ⟨Hx1,Hf1⟩:=hqq2 hx1 hf1;clear hvq hx1 hf1 hb1 kc g1 g2 hgl;by_cases hzn:z2 < 0
          · have hznb:decide (z2 < 0)=true:=zBz hzn;have Hnx:=lhd (Hnx1.out oM);have hlen:=Hx1.out.lenc HN.out hn 0;clear Hnx1 Hnx2;go_wp2_with fail;refine hlen.mono ?_;clear hlen;rintro e w2 ⟨rfl,m2,rfl⟩;have hx2:=Hx1.out.vis (Vis.of_below (below_drewN bR m2));have hf2:=Hf1.out.trans (LF.of_vb (B:=B) (own:=ownq) (VisK.of_below (below_drewN bR m2)));obtain ⟨Hx2,Hf2⟩:=hqq2 hx2 hf2;clear hx2 hf2;generalize w1.drewN m2=w2 at Hx2 Hf2⊢;obtain ⟨nx,hnx⟩:∃nx:Int,((N+1:Nat):Int)=nx:=⟨_,rfl⟩;rw [hnx] at Hnx;have e67':wrap64 ((N:Int)+1)=nx:=(by rw [e67];exact hnx);have hnl:=Hnx.out.1;have hnN:nx<=((N+1:Nat):Int):=(by rcases Hnx.out.2.2 with e |⟨s,hs,e⟩;omega;have:=HI.out.fg.le s hs;omega);have e2:IntKind.i64.wrap (nx - q)=nx - q:=(by rw [IntKind.wrap_i64];omega);have g2:w2.cell? ⟨gl,2,none⟩=some (.int .i64 (rate:Int)):=(Hx2.out.live.blk.cell 2).trans rfl;have hgl2:=Hx2.out.live.blk.lt;by_cases hfar:nx - q<=(rate:Int)
            · have hfarb:decide (nx - q > (rate:Int))=false:=zBy oM;have hfarc:¬(rate:Int) < nx - q:=oM;have hfg2:=nM HI.out.fg Hnx.out hfar;have Hfg2:=lhd hfg2;clear hfg2;go_wp2_with fail;go_roundw
              case rel=>exact ⟨nx,ownq,prq,by first | rfl |(congr 1 <;> omega),Hx2.out,Hfg2.out,Hf2.out⟩
              case measure=>simp [intOf];omega
            · have hfarb:decide (nx - q > (rate:Int))=true:=zBz oM;have hfarc:(rate:Int) < nx - q:=oM;obtain ⟨p,hp,hpN,hpS,_⟩:=iD (S':=Smp prq) HI.out.fg Hnx.out hqN hr1 hfar;have e3:IntKind.i64.wrap (q+(rate:Int))=(p:Int):=(by rw [IntKind.wrap_i64];omega);have hadd:=mR w2 B ownq gl gk gp rate mv t T N rs prq p Hx2.out HN.out hn hpN (fun x hx e=>hpS ⟨x,hx,e⟩);unfold lN at hadd;obtain ⟨Hp,HpS⟩:=hqq2 hp hpS;clear hp hpS;go_wp2_with fail;refine hadd.mono ?_;clear hadd;rintro e w3 ⟨rfl,own3,pr3,hx3,hs3,hf3⟩;have hfg3:FG (Smp pr3) rate N at_ (p:Int):=(by obtain ⟨p',hp',_,_,hpF⟩:=iD (S':=Smp pr3) HI.out.fg Hnx.out hqN hr1 oM;have:p'=p:=(by have:=Hp.out;omega);subst this;exact hpF hs3);obtain ⟨Hfg3,Hx3,Hf3⟩:=hqq3 hfg3 hx3 (Hf2.out.trans hf3);have Hlt:=lhd (show q < (p:Int) by have:=Hp.out;omega);clear hfg3 hx3 hs3 hf3;go_wp2_with fail;go_roundw
              case rel=>exact ⟨(p:Int),own3,pr3,rfl,Hx3.out,Hfg3.out,Hf3.out⟩
              case measure=>simp [intOf];have:=Hlt.out;omega
          · have hznb:decide (z2 < 0)=false:=zBy hzn;have Hnx:=lhd (Hnx2.out oM);clear Hnx1 Hnx2;obtain ⟨nx,hnx⟩:∃nx:Int,z2=nx:=⟨_,rfl⟩;rw [hnx] at Hnx hznb⊢;have Hx2:=Hx1;have Hf2:=Hf1;clear Hx1 Hf1;generalize w1=w2 at Hx2 Hf2⊢;have hnl:=Hnx.out.1;have hnN:nx<=((N+1:Nat):Int):=(by rcases Hnx.out.2.2 with e |⟨s,hs,e⟩;omega;have:=HI.out.fg.le s hs;omega);have e2:IntKind.i64.wrap (nx - q)=nx - q:=(by rw [IntKind.wrap_i64];omega);have g2:w2.cell? ⟨gl,2,none⟩=some (.int .i64 (rate:Int)):=(Hx2.out.live.blk.cell 2).trans rfl;have hgl2:=Hx2.out.live.blk.lt;by_cases hfar:nx - q<=(rate:Int)
            · have hfarb:decide (nx - q > (rate:Int))=false:=zBy oM;have hfarc:¬(rate:Int) < nx - q:=oM;have hfg2:=nM HI.out.fg Hnx.out hfar;have Hfg2:=lhd hfg2;clear hfg2;go_wp2_with fail;go_roundw
              case rel=>exact ⟨nx,ownq,prq,by first | rfl |(congr 1 <;> omega),Hx2.out,Hfg2.out,Hf2.out⟩
              case measure=>simp [intOf];omega
            · have hfarb:decide (nx - q > (rate:Int))=true:=zBz oM;have hfarc:(rate:Int) < nx - q:=oM;obtain ⟨p,hp,hpN,hpS,_⟩:=iD (S':=Smp prq) HI.out.fg Hnx.out hqN hr1 hfar;have e3:IntKind.i64.wrap (q+(rate:Int))=(p:Int):=(by rw [IntKind.wrap_i64];omega);have hadd:=mR w2 B ownq gl gk gp rate mv t T N rs prq p Hx2.out HN.out hn hpN (fun x hx e=>hpS ⟨x,hx,e⟩);unfold lN at hadd;obtain ⟨Hp,HpS⟩:=hqq2 hp hpS;clear hp hpS;go_wp2_with fail;refine hadd.mono ?_;clear hadd;rintro e w3 ⟨rfl,own3,pr3,hx3,hs3,hf3⟩;have hfg3:FG (Smp pr3) rate N at_ (p:Int):=(by obtain ⟨p',hp',_,_,hpF⟩:=iD (S':=Smp pr3) HI.out.fg Hnx.out hqN hr1 oM;have:p'=p:=(by have:=Hp.out;omega);subst this;exact hpF hs3);obtain ⟨Hfg3,Hx3,Hf3⟩:=hqq3 hfg3 hx3 (Hf2.out.trans hf3);have Hlt:=lhd (show q < (p:Int) by have:=Hp.out;omega);clear hfg3 hx3 hs3 hf3;go_wp2_with fail;go_roundw
              case rel=>exact ⟨(p:Int),own3,pr3,rfl,Hx3.out,Hfg3.out,Hf3.out⟩
              case measure=>simp [intOf];have:=Hlt.out;omega
        · have hqb:decide (q<=mn)=false:=zBy hq;have hend:=aBz HI.out.fg (by rw [Hmn.out];exact hq);have Hend:=lhd hend;clear hend;go_wp2_with fail;go_quiet ((with_reducible exact kc _))
          rename_i nq
          have hvq:VB B wr (wr.drewN nq):=VisK.of_below (below_drewN bR nq);have hx1:=HI.out.tx.vis hvq.1;have hf1:=HI.out.lf.trans (LF.of_vb (own:=ownq) hvq);obtain ⟨Hx1,Hf1⟩:=hqq2 hx1 hf1;clear hvq hx1 hf1 kc g1 g2 hgl;go_wp2_with fail;go_end0;exact ⟨rfl,ownq,prq,Hx1.out,HI.out.fg.zero,Hend.out,Hf1.out⟩
 · have hrow:=xU gp (N+1) (N+1) pr 0 w H.out.live.permR (fun x hx e=>h0 ⟨x,hx,e⟩);have Hno:=lhd h0;clear h0;go_wp2_with fail;refine hrow.mono ?_;clear hrow;rintro e W0 ⟨rfl,hbW⟩;have hx0:=H.out.vis (Vis.of_below hbW);have hadd:=mR W0 B own gl gk gp rate mv t T N rs pr 0 hx0 HN.out hn (zAp _) (fun x hx e=>Hno.out ⟨x,hx,e⟩);unfold lN at hadd;have HF0:=lhd (LF.of_vb (B:=B) (own:=own) (VisK.of_below hbW));clear hbW hx0 c1 H;go_wp2_with fail;refine hadd.mono ?_;clear hadd;rintro e W ⟨rfl,own1,pr1,hx1,hs1,hf1⟩;obtain ⟨HX,HF⟩:=hqq2 hx1 (HF0.out.trans hf1);have hS0:∀p,Smp pr1 p↔Smp pr p∨p=0:=fun p=>(hs1 p).trans Or.comm;have HS0:=lhd hS0;clear hS0 hx1 hs1 hf1 HF0;go_wp2_with fail;obtain ⟨z,hz⟩:=pS pr1 (at_ - 2*rate);refine wp_region_any kR ?_;refine aX [14,15,16,17,18,19,20,21,22,23,24,25,26,4] (Grow) (Vs [is (.pointer (some ⟨gl,0,none⟩)),is (.pointer (some ⟨gl,0,none⟩)),is (.pointer (some ⟨gl,1,none⟩)),is (.pointer (some ⟨gp,0,none⟩)),is (.int .i64 (at_:Int)),is (.pointer (some ⟨gl,0,none⟩)),is (.pointer (some ⟨gl,0,none⟩)),is (.pointer (some ⟨gl,2,none⟩)),is (.int .i64 (rate:Int)),is (.int .i64 ((2*rate:Nat):Int)),is (.int .i64 ((at_:Int) -((2*rate:Nat):Int))),is (.int .i64 ((at_ - 2*rate:Nat):Int)),is (.int .i64 z),is (.int .i64 z)]) _ _ rfl kR bR (fun _ _=>Grow.trans) (cY (by repeat' (first | exact cA _ _ | exact bS _ |(refine zAe.2 ⟨?_,?_⟩)|(intro p hp;cases hp)))) ?_ ?_
   · refine aT ?_;refine pH 0 (.pointer (some ⟨gl,0,none⟩)) ?_;refine pV 0 14 ?_;refine pV 1 15 ?_;refine sC (fun _ w5 hS _ _ _ hval _ _ _ hK=>?_) ?_
     · have e16:_=_:=hval 2 16 kR rfl;replace hS:(Grow) W w5:=⟨hS.os,hS.tape,hS.output,hS.size,hS.block⟩;have c17:w5.cell? ⟨gl,1,none⟩=some (.pointer (some ⟨gp,0,none⟩)):=((HX.out.vis (Vis.of_below hS)).live.blk.cell 1).trans rfl;go_simp;exact hK _ _ bR rfl
     refine pH 1 (.int .i64 (at_:Int)) ?_;refine pH 0 (.pointer (some ⟨gl,0,none⟩)) ?_;refine pV 5 19 ?_;refine pV 6 20 ?_;refine sC (fun _ w5 hS _ _ _ hval _ _ _ hK=>?_) ?_
     · have e21:_=_:=hval 7 21 kR rfl;replace hS:(Grow) W w5:=⟨hS.os,hS.tape,hS.output,hS.size,hS.block⟩;have c22:w5.cell? ⟨gl,2,none⟩=some (.int .i64 (rate:Int)):=((HX.out.vis (Vis.of_below hS)).live.blk.cell 2).trans rfl;go_simp;exact hK _ _ bR rfl
     refine pV 8 22 ?_;refine sC (fun _ _ _ _ _ _ hval _ _ _ hK=>?_) ?_
     · have e18:_=_:=hval 4 18 kR rfl;have e23:_=_:=hval 9 23 kR rfl;go_simp;exact hK _ _ bR (eB (by rw [IntKind.wrap_i64];push_cast;omega))
     refine sC (fun _ _ _ _ _ _ hval _ _ _ hK=>?_) ?_
     · have e24:_=_:=hval 10 24 kR rfl;go_simp;exact hK _ _ bR (eB oM)
     refine sC (fun _ w5 hS _ _ _ hval _ _ _ hK=>?_) ?_
     · have e17:_=_:=hval 3 17 kR rfl;have e25:_=_:=hval 11 25 kR rfl;replace hS:(Grow) W w5:=⟨hS.os,hS.tape,hS.output,hS.size,hS.block⟩;go_simp;refine (gW gp (N+1) (N+1) pr1 (at_ - 2*rate) z w5 (HX.out.vis (Vis.of_below hS)).live.permR hz).mono ?_;rintro e w8 ⟨rfl,hb8⟩;exact hK _ _ hb8 rfl
     refine pV 12 26 ?_;exact aG
   · intro ev w6 hS hval;replace hS:(Grow) W w6:=⟨hS.os,hS.tape,hS.output,hS.size,hS.block⟩;have e4:ev (.tmp 4)=.int .i64 z:=hval 13 4 rfl;simp only [aO,zq1,zq2,Act.put,zq3,zq4,zq5];rw [e4];clear hval;have hxW:=HX.out.vis (Vis.of_below hS);have hfW:=HF.out.trans (LF.of_vb (B:=B) (own:=own1) (VisK.of_below hS));have hfg:=vB Hg.out HS0.out hr1 (rH hz);have HI0:=lhd (FillI.mk hxW hfg hfW);clear hxW hfW hfg hz hS HX HF HS0 Hg;go_wp2_with fail;go_loopw [4] (fun x wr=>∃(q:Int) (ownq:Nat->Nat) (prq:List (Nat×Nat)),x=.int .i64 q/\FillI w wr B own ownq gl gk gp rate mv (aD t) T N at_ rs prq q) (fun x _=>((N:Int)+2 - intOf x).toNat)
     case atStart=>exact ⟨z,_,_,rfl,HI0.out⟩
     case round=>
        clear HI0;obtain ⟨q,ownq,prq,rfl,hI⟩:=hrel;obtain ⟨hq1,hq2⟩:=hI.fg.ge;have kc:=hI.tx.lenc HN.out hn;have g1:wr.cell? ⟨gl,1,none⟩=some (.pointer (some ⟨gp,0,none⟩)):=(hI.tx.live.blk.cell 1).trans rfl;have g2:wr.cell? ⟨gl,2,none⟩=some (.int .i64 (rate:Int)):=(hI.tx.live.blk.cell 2).trans rfl;have hgl:=hI.tx.live.blk.lt;obtain ⟨mn,hmn⟩:=eqx (min (N:Int) ((at_:Int)+(rate:Int)));obtain ⟨HI,Hmn⟩:=hqq2 hI hmn;clear hI;by_cases hq:q<=mn
        · have hqb:decide (q<=mn)=true:=zBz hq;obtain ⟨q1,hq1e⟩:∃q1:Nat,q+1=(q1:Int):=⟨(q+1).toNat,by omega⟩;have hqN:q<=(N:Int):=oM;obtain ⟨z2,hz2⟩:=pS prq q1;obtain ⟨nx1,nx2⟩:=sD (N:=N) hz2 hq1e hqN;have e1:wrap64 (q+1)=(q1:Int):=(by rw [dL oM oM];exact hq1e);obtain ⟨Hz2,Hnx1,Hnx2,Hq1e⟩:=hqq4 hz2 nx1 nx2 hq1e;clear hz2 nx1 nx2;go_wp2_with fail;go_quiet ((with_reducible exact kc _))
          rename_i nq
          have hxq:=HI.out.tx.vis (Vis.of_below (below_drewN bR nq));have hnext:=gW gp (N+1) (N+1) prq q1 z2 (wr.drewN nq) hxq.live.permR Hz2.out;clear hxq;go_wp2_with fail;refine hnext.mono ?_;clear hnext;rintro e w1 ⟨rfl,hb1⟩;have hvq:VB B wr w1:=VisK.of_below ((below_drewN bR nq).trans hb1);have hx1:=HI.out.tx.vis hvq.1;have hf1:=HI.out.lf.trans (LF.of_vb (own:=ownq) hvq);obtain ⟨Hx1,Hf1⟩:=hqq2 hx1 hf1;clear hvq hx1 hf1 hb1 kc g1 g2 hgl;by_cases hzn:z2 < 0
          · have hznb:decide (z2 < 0)=true:=zBz hzn;have Hnx:=lhd (Hnx1.out oM);have hlen:=Hx1.out.lenc HN.out hn 0;clear Hnx1 Hnx2;go_wp2_with fail;refine hlen.mono ?_;clear hlen;rintro e w2 ⟨rfl,m2,rfl⟩;have hx2:=Hx1.out.vis (Vis.of_below (below_drewN bR m2));have hf2:=Hf1.out.trans (LF.of_vb (B:=B) (own:=ownq) (VisK.of_below (below_drewN bR m2)));obtain ⟨Hx2,Hf2⟩:=hqq2 hx2 hf2;clear hx2 hf2;generalize w1.drewN m2=w2 at Hx2 Hf2⊢;obtain ⟨nx,hnx⟩:∃nx:Int,((N+1:Nat):Int)=nx:=⟨_,rfl⟩;rw [hnx] at Hnx;have e67':wrap64 ((N:Int)+1)=nx:=(by rw [e67];exact hnx);have hnl:=Hnx.out.1;have hnN:nx<=((N+1:Nat):Int):=(by rcases Hnx.out.2.2 with e |⟨s,hs,e⟩;omega;have:=HI.out.fg.le s hs;omega);have e2:IntKind.i64.wrap (nx - q)=nx - q:=(by rw [IntKind.wrap_i64];omega);have g2:w2.cell? ⟨gl,2,none⟩=some (.int .i64 (rate:Int)):=(Hx2.out.live.blk.cell 2).trans rfl;have hgl2:=Hx2.out.live.blk.lt;by_cases hfar:nx - q<=(rate:Int)
            · have hfarb:decide (nx - q > (rate:Int))=false:=zBy oM;have hfarc:¬(rate:Int) < nx - q:=oM;have hfg2:=nM HI.out.fg Hnx.out hfar;have Hfg2:=lhd hfg2;clear hfg2;go_wp2_with fail;go_roundw
              case rel=>exact ⟨nx,ownq,prq,by first | rfl |(congr 1 <;> omega),Hx2.out,Hfg2.out,Hf2.out⟩
              case measure=>simp [intOf];omega
            · have hfarb:decide (nx - q > (rate:Int))=true:=zBz oM;have hfarc:(rate:Int) < nx - q:=oM;obtain ⟨p,hp,hpN,hpS,_⟩:=iD (S':=Smp prq) HI.out.fg Hnx.out hqN hr1 hfar;have e3:IntKind.i64.wrap (q+(rate:Int))=(p:Int):=(by rw [IntKind.wrap_i64];omega);have hadd:=mR w2 B ownq gl gk gp rate mv t T N rs prq p Hx2.out HN.out hn hpN (fun x hx e=>hpS ⟨x,hx,e⟩);unfold lN at hadd;obtain ⟨Hp,HpS⟩:=hqq2 hp hpS;clear hp hpS;go_wp2_with fail;refine hadd.mono ?_;clear hadd;rintro e w3 ⟨rfl,own3,pr3,hx3,hs3,hf3⟩;have hfg3:FG (Smp pr3) rate N at_ (p:Int):=(by obtain ⟨p',hp',_,_,hpF⟩:=iD (S':=Smp pr3) HI.out.fg Hnx.out hqN hr1 oM;have:p'=p:=(by have:=Hp.out;omega);subst this;exact hpF hs3);obtain ⟨Hfg3,Hx3,Hf3⟩:=hqq3 hfg3 hx3 (Hf2.out.trans hf3);have Hlt:=lhd (show q < (p:Int) by have:=Hp.out;omega);clear hfg3 hx3 hs3 hf3;go_wp2_with fail;go_roundw
              case rel=>exact ⟨(p:Int),own3,pr3,rfl,Hx3.out,Hfg3.out,Hf3.out⟩
              case measure=>simp [intOf];have:=Hlt.out;omega
          · have hznb:decide (z2 < 0)=false:=zBy hzn;have Hnx:=lhd (Hnx2.out oM);clear Hnx1 Hnx2;obtain ⟨nx,hnx⟩:∃nx:Int,z2=nx:=⟨_,rfl⟩;rw [hnx] at Hnx hznb⊢;have Hx2:=Hx1;have Hf2:=Hf1;clear Hx1 Hf1;generalize w1=w2 at Hx2 Hf2⊢;have hnl:=Hnx.out.1;have hnN:nx<=((N+1:Nat):Int):=(by rcases Hnx.out.2.2 with e |⟨s,hs,e⟩;omega;have:=HI.out.fg.le s hs;omega);have e2:IntKind.i64.wrap (nx - q)=nx - q:=(by rw [IntKind.wrap_i64];omega);have g2:w2.cell? ⟨gl,2,none⟩=some (.int .i64 (rate:Int)):=(Hx2.out.live.blk.cell 2).trans rfl;have hgl2:=Hx2.out.live.blk.lt;by_cases hfar:nx - q<=(rate:Int)
            · have hfarb:decide (nx - q > (rate:Int))=false:=zBy oM;have hfarc:¬(rate:Int) < nx - q:=oM;have hfg2:=nM HI.out.fg Hnx.out hfar;have Hfg2:=lhd hfg2;clear hfg2;go_wp2_with fail;go_roundw
              case rel=>exact ⟨nx,ownq,prq,by first | rfl |(congr 1 <;> omega),Hx2.out,Hfg2.out,Hf2.out⟩
              case measure=>simp [intOf];omega
            · have hfarb:decide (nx - q > (rate:Int))=true:=zBz oM;have hfarc:(rate:Int) < nx - q:=oM;obtain ⟨p,hp,hpN,hpS,_⟩:=iD (S':=Smp prq) HI.out.fg Hnx.out hqN hr1 hfar;have e3:IntKind.i64.wrap (q+(rate:Int))=(p:Int):=(by rw [IntKind.wrap_i64];omega);have hadd:=mR w2 B ownq gl gk gp rate mv t T N rs prq p Hx2.out HN.out hn hpN (fun x hx e=>hpS ⟨x,hx,e⟩);unfold lN at hadd;obtain ⟨Hp,HpS⟩:=hqq2 hp hpS;clear hp hpS;go_wp2_with fail;refine hadd.mono ?_;clear hadd;rintro e w3 ⟨rfl,own3,pr3,hx3,hs3,hf3⟩;have hfg3:FG (Smp pr3) rate N at_ (p:Int):=(by obtain ⟨p',hp',_,_,hpF⟩:=iD (S':=Smp pr3) HI.out.fg Hnx.out hqN hr1 oM;have:p'=p:=(by have:=Hp.out;omega);subst this;exact hpF hs3);obtain ⟨Hfg3,Hx3,Hf3⟩:=hqq3 hfg3 hx3 (Hf2.out.trans hf3);have Hlt:=lhd (show q < (p:Int) by have:=Hp.out;omega);clear hfg3 hx3 hs3 hf3;go_wp2_with fail;go_roundw
              case rel=>exact ⟨(p:Int),own3,pr3,rfl,Hx3.out,Hfg3.out,Hf3.out⟩
              case measure=>simp [intOf];have:=Hlt.out;omega
        · have hqb:decide (q<=mn)=false:=zBy hq;have hend:=aBz HI.out.fg (by rw [Hmn.out];exact hq);have Hend:=lhd hend;clear hend;go_wp2_with fail;go_quiet ((with_reducible exact kc _))
          rename_i nq
          have hvq:VB B wr (wr.drewN nq):=VisK.of_below (below_drewN bR nq);have hx1:=HI.out.tx.vis hvq.1;have hf1:=HI.out.lf.trans (LF.of_vb (own:=ownq) hvq);obtain ⟨Hx1,Hf1⟩:=hqq2 hx1 hf1;clear hvq hx1 hf1 kc g1 g2 hgl;go_wp2_with fail;go_end0;exact ⟨rfl,ownq,prq,Hx1.out,HI.out.fg.zero,Hend.out,Hf1.out⟩
end Go.Proofs.YtnhmjomhloainaaGreatDoor
namespace Go.Proofs.YtnhmjomhloainaaGreatDoor
open Go.RowKit
theorem aDW:∀(l:List Nat) (p j:Nat),l[j]?=some p->l.idxOf p<=j
 | [],p,j,h=>by simp at h
 | a::l,p,j,h=>by
   rw [List.idxOf_cons];by_cases hp:(a==p)=true
   · rw [hp];simp
   · have hp':(a==p)=false:=(by simpa using hp);rw [hp'];rcases j with _ | j
     · simp at h;subst h;simp at hp
     have:=aDW l p j (by simpa using h);simp;omega
theorem aHf {t:List UInt8} {rs:List Nat} (h:IsSuf (aD t) rs) {p:Nat} (hp:p<=t.length):rs[rs.idxOf p]?=some p/\∀j,j < rs.idxOf p->rs[j]?≠some p:=by
 have hmem:p∈rs:=h.mem (by rw [aJ];omega);refine ⟨zAc.2 ⟨List.idxOf_lt_length_iff.2 hmem,List.getElem_idxOf _⟩,fun j hj e=>?_⟩;obtain ⟨hl,e2⟩:=zAc.1 e;have:=aDW rs p j e;omega
theorem mO (t:List UInt8) (n:Nat) (rate most:Int) (w:World) (hn:t.length=n) (hn4:n<=900) (h:most < (n:Int)∨most > 2147483648):
 Calls Tryz.prog 21 #[.string ⟨t.toArray⟩,.int .i64 rate,.int .i64 most] w fun e w'=>e=.returned (.tuple #[.string ⟨#[]⟩,.int .i64 1])/\w=w':=by
 have z1:(⟨t.toArray⟩:ByteArray).size=n:=(bU t).trans hn;by_cases h1:most < (n:Int)
 · have g1:decide (most < (n:Int))=true:=zBz h1;go_enter Tryz.func21,Tryz.ntmps21;go_wp2_with fail;go_ret2;exact ⟨rfl,rfl⟩
 · have g1:decide (most < (n:Int))=false:=zBy h1;have g2:decide (most > 2147483648)=true:=zBz oM;go_enter Tryz.func21,Tryz.ntmps21;go_wp2_with fail;go_ret2;exact ⟨rfl,rfl⟩
theorem aB3 (t:List UInt8) (n rate most:Nat) (rs:List Nat) (w:World) (hn:t.length=n) (hn4:n<=127) (hr1:1<=rate) (hr2:rate<=64) (hm1:n<=most) (hm2:most<=2147483648) (hs:IsSuf (aD t) rs):
 Calls Tryz.prog 21 #[.string ⟨t.toArray⟩,.int .i64 (rate:Int),.int .i64 (most:Int)] w fun e w'=>e=.returned (.tuple #[.string ⟨(cG (aE (aD t) rs) rs most rate n).toArray⟩,.int .i64 0])/\Below w.heap.size w w':=by
 have z1:(⟨t.toArray⟩:ByteArray).size=n:=(bU t).trans hn;have g1:decide (most < n)=false:=zBy oM;have g1':decide ((most:Int) < (n:Int))=false:=zBy oM;have g2:decide ((most:Int) > 2147483648)=false:=zBy oM;have g2':decide (2147483648 < most)=false:=zBy oM;have e1:IntKind.u64.wrap (most:Int)=(most:Int):=by rw [IntKind.wrap_u64];omega
 have e2:IntKind.u64.wrap (rate:Int)=(rate:Int):=by rw [IntKind.wrap_u64];omega
 have e3:IntKind.u64.wrap (n:Int)=(n:Int):=by rw [IntKind.wrap_u64];omega
 obtain ⟨b1,hb1⟩:∃b,bK most=b:=⟨_,rfl⟩;obtain ⟨b2,hb2⟩:∃b,bK rate=b:=⟨_,rfl⟩;obtain ⟨b3,hb3⟩:∃b,bK n=b:=⟨_,rfl⟩;have l1:b1.length<=11:=by rw [<-hb1];exact bN most
 have l2:b2.length<=11:=by rw [<-hb2];exact bN rate
 have l3:b3.length<=11:=by rw [<-hb3];exact bN n
 obtain ⟨Hb1,Hb2,Hb3,Hs,Hn⟩:=hqq5 hb1 hb2 hb3 hs hn;have z2:(⟨b1.toArray⟩:ByteArray).size=b1.length:=bU b1;have z3:(⟨b2.toArray⟩:ByteArray).size=b2.length:=bU b2;have z4:(⟨b3.toArray⟩:ByteArray).size=b3.length:=bU b3;have c1:(⟨#[83,75,82,49]⟩:ByteArray)++⟨b1.toArray⟩=⟨(eW++b1).toArray⟩:=cS eW b1;obtain ⟨h1,hh1⟩:∃h,eW++b1=h:=⟨_,rfl⟩;obtain ⟨h2,hh2⟩:∃h,h1++b2=h:=⟨_,rfl⟩;obtain ⟨h3,hh3⟩:∃h,h2++b3=h:=⟨_,rfl⟩;have c2:=cS h1 b2;have c3:=cS h2 b3;rw [hh1] at c1;rw [hh2] at c2;rw [hh3] at c3;have y1:h1.length<=15:=by rw [<-hh1,zAi];have:eW.length=4:=rfl;omega
 have y2:h2.length<=26:=by rw [<-hh2,zAi];omega
 have y3:h3.length<=37:=by rw [<-hh3,zAi];omega
 have z5:(⟨h1.toArray⟩:ByteArray).size=h1.length:=bU h1;have z6:(⟨h2.toArray⟩:ByteArray).size=h2.length:=bU h2;have Hh:=lhd (show h3=eW++b1++b2++b3 by rw [hh1,hh2,hh3]);clear hb1 hb2 hb3 hs hn hh1 hh2 hh3;go_enter Tryz.func21,Tryz.ntmps21;go_wp2_with fail;refine (fE most _ b1 Hb1.out oM).mono ?_;rintro e w1 ⟨rfl,hw1⟩;go_wp2_with fail;refine (fE rate _ b2 Hb2.out oM).mono ?_;rintro e w2 ⟨rfl,hw2⟩;go_wp2_with fail;refine (fE n _ b3 Hb3.out oM).mono ?_;rintro e w3 ⟨rfl,hw3⟩;have Hw3:=lhd ((hw1.trans (hw2.mono hw1.size)).trans (hw3.mono (hw1.trans (hw2.mono hw1.size)).size));clear hw1 hw2 hw3;go_wp2_with fail;clear c1 c2 c3 z2 z3 z4 z5 z6 l1 l2 l3 y1 y2 e1 e2 e3 g1 g1' g2 g2';refine (sQ t n w3 Hn.out oM).mono ?_;rintro e w4 ⟨A4,k4,L,rfl,hsL,hm4,hb4⟩;obtain rfl:=hsL.unique Hs.out;obtain ⟨Hm4,Hw4⟩:=hqq2 hm4 (Hw3.out.trans (hb4.mono Hw3.out.size));clear hm4 hb4 hsL Hw3;go_wp2_with fail;refine (sT t n w4 Hn.out oM).mono ?_;rintro e w5 ⟨A5,k5,L5,rfl,hsL,hm5,hb5⟩;obtain rfl:=hsL.unique Hs.out;obtain ⟨Hm4,Hw5⟩:=hqq2 (Hm4.out.below hb5) (Hw4.out.trans (hb5.mono Hw4.out.size));have hlt:=dG (rs:=L5) (eK t);have hLl:(aE (aD t) L5).length=n+1:=by rw [bJ,Hs.out.len,aJ,Hn.out]
 obtain ⟨f,hf⟩:=eqx (eU (aE (aD t) L5));have hfl:=gP (aE (aD t) L5);rw [hf,hLl] at hfl;have hput:=vA hlt;rw [hf] at hput;have hrd:Rd w5 w5.heap.size 1 A5 (n+1) ((eO (aE (aD t) L5)).map iv):=by have:=hm5.rd;unfold eO;rw [zCg];exact this
 have Hf:=lhd hf;have hpr:=xG A5 (n+1) k5 w5.heap.size _ w5 f hput hrd nL oM;clear hm5 hb5 hsL Hw4 hlt hLl hput hrd hf;go_wp2_with fail;refine hpr.mono ?_;clear hpr;rintro e w6 ⟨rfl,hb6⟩;obtain ⟨Hm4,Hw6⟩:=hqq2 (Hm4.out.below hb6) (Hw5.out.trans (hb6.mono Hw5.out.size));clear hb6 Hw5;go_wp2_with fail;go_loopw [12,13] (fun s i wr=>∃k,k<=n / rate+1/\s=.string ⟨(pF L5 rate k).toArray⟩/\i=.int .i64 ((k*rate:Nat):Int)/\Below w.heap.size w wr/\Below w6.heap.size w6 wr) (fun _ i _=>n+65 -(intOf i).toNat)
 case atStart=>exact ⟨0,zAp _,rfl,by simp,Hw6.out,Below.refl _ _⟩
 case round=>
  obtain ⟨k,hk,rfl,rfl,hbw,hb6⟩:=hrel;obtain ⟨p,hp⟩:=eqx (k*rate);have hkl:(pF L5 rate k).length<=1500:=by have h2:=lV L5 rate k;have h3:n / rate<=n:=Nat.div_le_self _ _;omega
  by_cases hpn:p<=n
  · obtain ⟨hi1,hi2⟩:=aHf Hs.out (p:=p) (by rw [Hn.out];exact hpn);have hil:L5.idxOf p<=200:=(by have:=List.idxOf_le_length (a:=p) (l:=L5);rw [Hs.out.len,aJ,Hn.out] at this;omega);have hnx:=mU L5 rate k;have hk1:=aGg hr1 (show k*rate<=n by omega);have hpr:(k+1)*rate=p+rate:=(by rw [Nat.add_mul,hp,Nat.one_mul]);rw [hp] at hnx⊢;obtain ⟨x,hx⟩:=eqx (L5.idxOf p);rw [hx] at hi1 hi2 hil hnx;obtain ⟨bx,hbx⟩:∃b,bK x=b:=⟨_,rfl⟩;have hbl:bx.length<=11:=(by rw [<-hbx];exact bN x);rw [hbx] at hnx;obtain ⟨cur,hcur⟩:=eqx (pF L5 rate k);rw [hcur] at hnx hkl⊢;have hat:=aE8 A4 (n+1) k4 p x wr.heap.size L5 wr ((Hm4.out.below hb6).rd) hi1 hi2 oM;have hcat:=cS cur bx;have e1:IntKind.u64.wrap (x:Int)=(x:Int):=(by rw [IntKind.wrap_u64];omega);have e2:IntKind.i64.wrap ((p:Int)+(rate:Int))=((p+rate:Nat):Int):=(by rw [IntKind.wrap_i64];omega);have z7:(⟨cur.toArray⟩:ByteArray).size=cur.length:=bU cur;have z8:(⟨bx.toArray⟩:ByteArray).size=bx.length:=bU bx;have g5:decide ((p:Int)<=(n:Int))=true:=zBz oM;have g6:decide (p<=n)=true:=zBz hpn;obtain ⟨Hbx,Hnx,Hpr,Hbw,Hb6⟩:=hqq5 hbx hnx hpr hbw hb6;clear hi1 hi2 hnx hbx hx hcur hpr hbw hb6 hp;go_wp2_with fail;refine hat.mono ?_;rintro e w7 ⟨rfl,rfl⟩;clear hat;go_wp2_with fail;refine (fE x _ bx Hbx.out oM).mono ?_;rintro e w8 ⟨rfl,hb8⟩;obtain ⟨Hbw,Hb6⟩:=hqq2 (Hbw.out.trans (hb8.mono Hbw.out.size)) (Hb6.out.trans (hb8.mono Hb6.out.size));clear hb8;go_wp2_with fail;go_roundw
    case rel=>exact ⟨k+1,by omega,by rw [Hnx.out],by rw [Hpr.out];first | rfl | exact congrArg (Value.int .i64) e2,Hbw.out,Hb6.out⟩
    case measure=>simp [intOf];omega
  · have hke:k=n / rate+1:=(by have h1:n / rate < k:=(Nat.div_lt_iff_lt_mul oM).2 oM;omega);have hsec:pF L5 rate k=sX L5 rate n:=(by rw [hke];rfl);obtain ⟨g,hg⟩:=eqx (pF L5 rate k);rw [hg] at hsec hkl⊢;have g5:decide ((p:Int)<=(n:Int))=false:=zBy oM;have g6:decide (p<=n)=false:=zBy hpn;rw [hp];obtain ⟨e4,he4⟩:∃x,bK f.length=x:=⟨_,rfl⟩;obtain ⟨e5,he5⟩:∃x,bK g.length=x:=⟨_,rfl⟩;obtain ⟨x4,hx4⟩:∃x,jJ (gJ f)=x:=⟨_,rfl⟩;obtain ⟨x5,hx5⟩:∃x,jJ (gJ g)=x:=⟨_,rfl⟩;obtain ⟨q1,hq1⟩:∃x,h3++e4=x:=⟨_,rfl⟩;obtain ⟨q2,hq2⟩:∃x,q1++f=x:=⟨_,rfl⟩;obtain ⟨q3,hq3⟩:∃x,q2++x4=x:=⟨_,rfl⟩;obtain ⟨q4,hq4⟩:∃x,q3++e5=x:=⟨_,rfl⟩;obtain ⟨q5,hq5⟩:∃x,q4++g=x:=⟨_,rfl⟩;obtain ⟨q6,hq6⟩:∃x,q5++x5=x:=⟨_,rfl⟩;obtain ⟨x6,hx6⟩:∃x,jJ (gJ q6)=x:=⟨_,rfl⟩;have hbody:q6=kH (aE (aD t) L5) L5 most rate n:=(by rw [vI,Hf.out,<-hsec];unfold dK;rw [he4,he5,hx4,hx5,Hb1.out,Hb2.out,Hb3.out,<-hq6,<-hq5,<-hq4,<-hq3,<-hq2,<-hq1,Hh.out];simp only [zCn]);have hsnap:q6++x6=cG (aE (aD t) L5) L5 most rate n:=(by unfold cG;rw [<-hbody,hx6]);have k1:=cS h3 e4;have k2:=cS q1 f;have k3:=cS q2 x4;have k4':=cS q3 e5;have k5':=cS q4 g;have k6:=cS q5 x5;have k7:=cS q6 x6;rw [hq1] at k1;rw [hq2] at k2;rw [hq3] at k3;rw [hq4] at k4';rw [hq5] at k5';rw [hq6] at k6;rw [hsnap] at k7;have v4:e4.length<=11:=(by rw [<-he4];exact bN _);have v5:e5.length<=11:=(by rw [<-he5];exact bN _);have u4:x4.length=4:=(by rw [<-hx4];exact jC _);have u5:x5.length=4:=(by rw [<-hx5];exact jC _);have u6:x6.length=4:=(by rw [<-hx6];exact jC _);have p1:q1.length<=48:=(by rw [<-hq1,zAi];omega);have p2:q2.length<=4000:=(by rw [<-hq2,zAi];omega);have p3:q3.length<=4004:=(by rw [<-hq3,zAi];omega);have p4:q4.length<=4015:=(by rw [<-hq4,zAi];omega);have p5:q5.length<=5515:=(by rw [<-hq5,zAi];omega);have p6:q6.length<=5519:=(by rw [<-hq6,zAi];omega);have s1:(⟨h3.toArray⟩:ByteArray).size=h3.length:=bU _;have s2:(⟨q1.toArray⟩:ByteArray).size=q1.length:=bU _;have s3:(⟨q2.toArray⟩:ByteArray).size=q2.length:=bU _;have s4:(⟨q3.toArray⟩:ByteArray).size=q3.length:=bU _;have s5:(⟨q4.toArray⟩:ByteArray).size=q4.length:=bU _;have s6:(⟨q5.toArray⟩:ByteArray).size=q5.length:=bU _;have s7:(⟨q6.toArray⟩:ByteArray).size=q6.length:=bU _;have r1:(⟨e4.toArray⟩:ByteArray).size=e4.length:=bU _;have r2:(⟨f.toArray⟩:ByteArray).size=f.length:=bU _;have r3:(⟨x4.toArray⟩:ByteArray).size=x4.length:=bU _;have r4:(⟨e5.toArray⟩:ByteArray).size=e5.length:=bU _;have r5:(⟨g.toArray⟩:ByteArray).size=g.length:=bU _;have r6:(⟨x5.toArray⟩:ByteArray).size=x5.length:=bU _;have r7:(⟨x6.toArray⟩:ByteArray).size=x6.length:=bU _;obtain ⟨E4,E5,X4,X5,X6,Hbw⟩:=hqq6 he4 he5 hx4 hx5 hx6 hbw;clear hp hke hg hq1 hq2 hq3 hq4 hq5 hq6 he4 he5 hx4 hx5 hx6 hsnap hbody hsec hb6 hbw;go_wp2_with fail;refine (fE f.length _ e4 E4.out oM).mono ?_;rintro e w7 ⟨rfl,hb7⟩;have Hbw:=lhd (Hbw.out.trans (hb7.mono Hbw.out.size));clear hb7;go_wp2_with fail;refine (lZ f f.length rfl oM w7).mono ?_;rintro e w8 ⟨rfl,rfl⟩;go_wp2_with fail;refine (mA (gJ f) _ x4 X4.out (qC _)).mono ?_;rintro e w8 ⟨rfl,hb8⟩;have Hbw:=lhd (Hbw.out.trans (hb8.mono Hbw.out.size));clear hb8;go_wp2_with fail;refine (fE g.length _ e5 E5.out oM).mono ?_;rintro e w9 ⟨rfl,hb9⟩;have Hbw:=lhd (Hbw.out.trans (hb9.mono Hbw.out.size));clear hb9;go_wp2_with fail;refine (lZ g g.length rfl oM w9).mono ?_;rintro e wa ⟨rfl,rfl⟩;go_wp2_with fail;refine (mA (gJ g) _ x5 X5.out (qC _)).mono ?_;rintro e wa ⟨rfl,hba⟩;have Hbw:=lhd (Hbw.out.trans (hba.mono Hbw.out.size));clear hba;go_wp2_with fail;refine (lZ q6 q6.length rfl oM wa).mono ?_;rintro e wb ⟨rfl,rfl⟩;go_wp2_with fail;refine (mA (gJ q6) _ x6 X6.out (qC _)).mono ?_;rintro e wb ⟨rfl,hbb⟩;have Hbw:=lhd (Hbw.out.trans (hbb.mono Hbw.out.size));clear hbb;go_wp2_with fail;go_ret2;exact ⟨rfl,Hbw.out⟩
end Go.Proofs.YtnhmjomhloainaaGreatDoor
namespace Go.Proofs.YtnhmjomhloainaaGreatDoor
theorem aFy (t:List UInt8) {k:Nat} (b:UInt8) (h:k<=t.length):aD (aQ t k b)=aQ (aD t) k (b.toNat+1):=by
 unfold aD dE aQ;rw [zAz,List.map_cons,List.map_take,List.map_drop,List.take_append_of_le_length (by simpa using h),List.drop_append_of_le_length (by simpa using h)];simp
theorem aFz (t:List UInt8) {k:Nat} (h:k < t.length):aD (aI t k)=aI (aD t) k:=by
 unfold aD dE aI;rw [zAz,List.map_take,List.map_drop,List.take_append_of_le_length (by simp;omega),List.drop_append_of_le_length (by simp;omega)];simp
theorem aA6 {L:List Nat} {k s old:Nat} (h:L[k]?=some old):(old::L.set k s).Perm (s::L):=by
 obtain ⟨hk,e⟩:=zAc.1 h;have h1:L.set k s=L.take k++s::L.drop (k+1):=List.set_eq_take_append_cons_drop .. |>.trans (by rw [zBx hk]);have h2:L=L.take k++old::L.drop (k+1):=by
  conv=>lhs;rw [<-zAu k L]
  rw [zAx hk,e]
 rw [h1]
 conv=>rhs;rw [h2]
 refine ((List.perm_middle).cons old).trans ?_;refine (List.Perm.swap s old _).trans ?_;exact ((List.perm_middle).symm.cons s)
section
variable {S S' : Nat -> Prop} {r N at_ : Nat}
theorem aCO (hg:zG S r N) (h0:S 0) (hle:∀s,S s->s<=N) (hr:1<=r) (hat:at_<=N) (hS:∀p,S' p↔∃s,S s/\p=sh at_ s):PreGap S' r (N+1) at_:=by
 have mk:∀s,S s->S' (sh at_ s):=fun s hs=>(hS _).2 ⟨s,hs,rfl⟩;have hz:S' 0∨(at_=0/\S' 1):=by by_cases c:at_=0;right;have:=mk 0 h0;unfold sh at this;rw [zBw oM] at this;exact ⟨c,this⟩;left;have:=mk 0 h0;unfold sh at this;rw [zBx oM] at this;exact this
 refine ⟨fun p hp=>?_,fun p hp hc hN=>?_,fun p hp hN=>?_⟩
 · obtain ⟨s,hs,rfl⟩:=(hS p).1 hp;have:=hle s hs;unfold sh;split <;> omega
 by_cases hp':S' p;obtain ⟨s,hs,rfl⟩:=(hS p).1 hp';unfold sh at hc hN⊢;by_cases c:s < at_;rw [zBx c] at hc hN⊢;obtain ⟨u,hu,h1,h2⟩:=hg s hs oM;have:=mk u hu;unfold sh at this;rw [zBx oM] at this;exact ⟨u,this,h1,h2⟩;rw [zBw c] at hc hN⊢;obtain ⟨u,hu,h1,h2⟩:=hg s hs oM;have:=mk u hu;unfold sh at this;rw [zBw oM] at this;exact ⟨u+1,this,by omega,by omega⟩;have e:p=0:=hp.resolve_left hp';subst e;rcases hz with h |⟨_,h⟩;exact absurd h hp';exact ⟨1,h,by omega,by omega⟩;by_cases hp':S' p;obtain ⟨s,hs,rfl⟩:=(hS p).1 hp';unfold sh at hN⊢;by_cases c:s < at_;rw [zBx c] at hN⊢;obtain ⟨u,hu,h1,h2⟩:=hg s hs oM;have:=mk u hu;unfold sh at this;by_cases c2:u < at_;rw [zBx c2] at this;exact ⟨u,this,h1,by omega⟩;rw [zBw c2] at this;exact ⟨u+1,this,by omega,by omega⟩;rw [zBw c] at hN⊢;obtain ⟨u,hu,h1,h2⟩:=hg s hs oM;have:=mk u hu;unfold sh at this;rw [zBw oM] at this;exact ⟨u+1,this,by omega,by omega⟩;have e:p=0:=hp.resolve_left hp';subst e;rcases hz with h |⟨_,h⟩;exact absurd h hp';exact ⟨1,h,by omega,by omega⟩
theorem aCP (hg:zG S r (N+1)) (h0:S 0) (hle:∀s,S s->s<=N+1) (hr:1<=r) (hat:at_<=N) (hS:∀p,S' p↔∃s,S s/\s≠at_/\p=ush at_ s):PreGap S' r N at_:=by
 have mk:∀s,S s->s≠at_->S' (ush at_ s):=fun s hs hne=>(hS _).2 ⟨s,hs,hne,rfl⟩;have lt:∀s,S s->s < at_->S' s:=fun s hs hlt=>by have:=mk s hs oM;unfold ush at this;rwa [zBx hlt] at this
 have gt:∀s,S s->at_ < s->S' (s - 1):=fun s hs hlt=>by have:=mk s hs oM;unfold ush at this;rwa [zBw oM] at this
 have hz:¬S' 0->1<=N+1 - 0->0+r<=N+1->∃u,S' u/\0 < u/\u+1<=r:=fun hn _ hN=>by
  have ha:at_=0:=by by_cases c:at_=0;exact c;exact absurd (lt 0 h0 oM) hn
  obtain ⟨u,hu,h1,h2⟩:=hg 0 h0 hN;have h3:=gt u hu oM;by_cases c:u=1;subst c;exact absurd h3 hn;exact ⟨u - 1,h3,by omega,by omega⟩
 refine ⟨fun p hp=>?_,fun p hp hc hN=>?_,fun p hp hN=>?_⟩
 · obtain ⟨s,hs,hne,rfl⟩:=(hS p).1 hp;have:=hle s hs;unfold ush;split <;> omega
 by_cases hp':S' p;obtain ⟨s,hs,hne,rfl⟩:=(hS p).1 hp';unfold ush at hc hN⊢;by_cases c:s < at_;rw [zBx c] at hc hN⊢;obtain ⟨u,hu,h1,h2⟩:=hg s hs oM;exact ⟨u,lt u hu oM,h1,h2⟩;rw [zBw c] at hc hN⊢;obtain ⟨u,hu,h1,h2⟩:=hg s hs oM;exact ⟨u - 1,gt u hu oM,by omega,by omega⟩;have e:p=0:=hp.resolve_left hp';subst e;obtain ⟨u,h1,h2,h3⟩:=hz hp' oM oM;exact ⟨u,h1,h2,by omega⟩;by_cases hp':S' p;obtain ⟨s,hs,hne,rfl⟩:=(hS p).1 hp';unfold ush at hN⊢;by_cases c:s < at_;rw [zBx c] at hN⊢;obtain ⟨u,hu,h1,h2⟩:=hg s hs oM;rcases Nat.lt_trichotomy u at_ with c2 | c2 | c2;exact ⟨u,lt u hu c2,h1,by omega⟩;subst c2;obtain ⟨v,hv,h3,h4⟩:=hg u hu oM;exact ⟨v - 1,gt v hv h3,by omega,by omega⟩;exact ⟨u - 1,gt u hu c2,by omega,by omega⟩;rw [zBw c] at hN⊢;obtain ⟨u,hu,h1,h2⟩:=hg s hs oM;exact ⟨u - 1,gt u hu oM,by omega,by omega⟩;have e:p=0:=hp.resolve_left hp';subst e;obtain ⟨u,h1,h2,h3⟩:=hz hp' oM oM;exact ⟨u,h1,h2,by omega⟩
end
end Go.Proofs.YtnhmjomhloainaaGreatDoor
