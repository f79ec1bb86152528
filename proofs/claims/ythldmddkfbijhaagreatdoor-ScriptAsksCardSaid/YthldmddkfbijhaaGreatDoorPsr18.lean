/- Lemmas of the walk. Conditions: each its own. -/
import Derived.Test.YthldmddkfbijhaaGreatDoorPsr14
import Derived.Test.YthldmddkfbijhaaGreatDoorPsr15
import Derived.Test.YthldmddkfbijhaaGreatDoorProg
import Derived.Test.YthldmddkfbijhaaGreatDoorShl
import Derived.Test.YthldmddkfbijhaaGreatDoorShi
import Derived.Test.YthldmddkfbijhaaGreatDoorSht
set_option linter.all false
set_option maxRecDepth 100000
set_option maxHeartbeats 4000000
namespace Go.Proofs.YthldmddkfbijhaaGreatDoor
section
open Go.RowKit
theorem yK (B gk:Nat) (L:List Nat) (i:Nat) (w:World) (h:WalkAt w B gk L) (hi:i < L.length):
 Calls Tryz.prog 160 #[gk,(i:Int)] w fun e w'=>e=.returned (.bool true)/\w=w':=by
 obtain ⟨n,hn⟩:=eqx L.length;rw [hn] at hi;have hiI:(i:Int) < (n:Int):=oM;obtain ⟨Hn,H⟩:=hqq2 hn h;clear hn h;go_enter Tryz.func160,Tryz.ntmps160;go_wp2_with fail;refine (lB B gk L w H.out).mono ?_;rintro e w' ⟨rfl,rfl⟩;rw [Hn.out];go_wp2_with fail;go_ret;exact ⟨rfl,rfl⟩
theorem mU (B gk:Nat) (L:List Nat) (i s:Nat) (w:World) (h:WalkAt w B gk L) (his:L[i]?=some s) (hL:∀x∈L,x < 257) (hl:L.length<=1000):
 Calls Tryz.prog 101 #[gk,(i:Int)] w fun e w'=>e=.returned (.int .i64 ((cJ L s i:Nat):Int))/\VB B w w':=by
 have hi:=(zAc.1 his).1;have hs:s < 257:=hL _ (zAd his);have hH:=h;obtain ⟨gv,gt,h1,h2,h3⟩:=h;have c0:=h1.cell 0;have hlt:=h1.lt;obtain ⟨j,hj⟩:=eqx (cJ L s i);obtain ⟨q1,hq1⟩:∃q,L.countP (fun x=>decide (x < s))=q:=⟨_,rfl⟩;obtain ⟨q2,hq2⟩:∃q,(L.take i).count s=q:=⟨_,rfl⟩;have hj2:q1+q2=j:=by rw [<-hq1,<-hq2,<-hj];rfl
 have hb1:q1<=1000:=by rw [<-hq1];exact zAk zBh hl
 have hb2:q2<=1000:=by rw [<-hq2];exact zAk zBv (by rw [zAj];omega)
 rw [hj];obtain ⟨H,H1,H2,Hi,His,HL,Hl,Hq1,Hq2⟩:=hqq9 hH h1 h2 hi his hL hl hq1 hq2;have Hj:=lhd hj2;clear hH h1 h2 h3 hi his hL hl hq1 hq2 hj hj2;go_enter Tryz.func101,Tryz.ntmps101;go_wp2_with fail;refine (yK B gk L i w H.out Hi.out).mono ?_;rintro e w1 ⟨rfl,rfl⟩;go_wp2_with fail;refine (dY B gv L i s w H2.out Hi.out (zAc.1 His.out).2 HL.out Hl.out).mono ?_;rintro e W ⟨rfl,hv⟩;have hW:=H.out.vis hv.1;have h1W:=hv.1.bk H1.out dC dC;have h2W:=H2.out.vis hv.1;obtain ⟨HW,H1W,H2W,Hv⟩:=hqq4 hW h1W h2W hv;clear hW h1W h2W hv c0;go_wp2_with fail;refine wp_region_any kR ?_;refine aO [20,21,22,23,24,25,26,27,28,29,30,4] (VB B) (Vs [is gk,is (s:Int),is (q1:Int),is gk,is gk,is gk,is gv,is (i:Int),is (s:Int),is (q2:Int),is (j:Int),is (j:Int)]) _ _ rfl kR vR (fun _ _=>VisK.trans) (cL tA1) ?_ ?_
 · refine aM ?_;refine pH 0 (.pointer (some ⟨gk,0,none⟩)) ?_;refine pH 5 (.int .i64 (s:Int)) ?_;refine sC (fun _ w5 hS _ _ _ hval _ _ _ hK=>?_) ?_
   · have e20:_=_:=hval 0 20 kR rfl;have e21:_=_:=hval 1 21 kR rfl;replace hS:(VB B) W w5:=bD hS;go_simp;refine (iT B gk L s w5 (HW.out.vis hS.1) hs Hl.out).mono ?_;rintro e w8 ⟨rfl,hb8⟩;rw [Hq1.out];exact hK _ _ (VisK.of_below hb8) rfl
   refine pH 0 (.pointer (some ⟨gk,0,none⟩)) ?_;refine pV 3 23 ?_;refine pV 4 24 ?_;refine sC (fun _ w5 hS _ _ _ hval _ _ _ hK=>?_) ?_
   · have e25:_=_:=hval 5 25 kR rfl;replace hS:(VB B) W w5:=bD hS;have c26:w5.cell? ⟨gk,0,none⟩=some (.pointer (some ⟨gv,0,none⟩)):=((hS.1.bk H1W.out dC dC).cell 0).trans rfl;go_simp;exact hK _ _ vR rfl
   refine pH 1 (.int .i64 (i:Int)) ?_;refine pH 5 (.int .i64 (s:Int)) ?_;refine sC (fun _ w5 hS _ _ _ hval _ _ _ hK=>?_) ?_
   · have e26:_=_:=hval 6 26 kR rfl;have e27:_=_:=hval 7 27 kR rfl;have e28:_=_:=hval 8 28 kR rfl;replace hS:(VB B) W w5:=bD hS;go_simp;refine (iG B gv L i s w5 (H2W.out.vis hS.1) hs (zCm Hi.out) HL.out Hl.out).mono ?_;rintro e w8 ⟨rfl,hv8⟩;rw [Hq2.out];exact hK _ _ hv8 rfl
   refine sC (fun _ _ _ _ _ _ hval _ _ _ hK=>?_) ?_
   · have e22:_=_:=hval 2 22 kR rfl;have e29:_=_:=hval 9 29 kR rfl;have hx1:IntKind.i64.wrap ((q1:Int)+(q2:Int))=(j:Int):=(by rw [IntKind.wrap_i64];have:=Hj.out;omega);go_simp;exact hK _ _ vR rfl
   refine pV 10 30 ?_;exact aC
 · intro ev w6 hS hval;replace hS:(VB B) W w6:=bD hS;have e4:ev (.tmp 4)=.int .i64 (j:Int):=hval 11 4 rfl;simp only [aI,zq1,zq2,Act.put,zq3,zq4,zq5];rw [e4];clear hval;have hv6:=Hv.out.trans hS;go_wp2_with fail;go_ret;exact ⟨rfl,hv6⟩
def WalkT (w:World) (B gk:Nat) (L T:List Nat):Prop:=
 ∃gv gt,Bk w gk 100 #[.pointer (some ⟨gv,0,none⟩),.pointer (some ⟨gt,0,none⟩)]/\WaveAt w B gv L/\Bk w gt 199 (tcells T)
theorem WalkT.vis {w w':World} {B gk:Nat} {L T:List Nat} (h:WalkT w B gk L T) (k:Vis w w'):WalkT w' B gk L T:=by
 obtain ⟨gv,gt,h1,h2,h3⟩:=h;exact ⟨gv,gt,k.bk h1 dC dC,h2.vis k,k.bk h3 dC dC⟩
def WalkE (w:World) (B:Nat) (own:Nat->Nat) (gk:Nat) (L T:List Nat):Prop:=
 ∃gv gt,Bk w gk 100 #[.pointer (some ⟨gv,0,none⟩),.pointer (some ⟨gt,0,none⟩)]/\own gk=2/\WaveE w B own gv L/\Bk w gt 199 (tcells T)/\own gt=2
section
variable {w w' : World} {B : Nat} {own own' : Nat -> Nat} {gk : Nat} {L T : List Nat}
theorem WalkE.at (h:WalkE w B own gk L T) (hp:T.Perm L):WalkAt w B gk L:=by
 obtain ⟨gv,gt,h1,_,h2,h3,_⟩:=h;rw [uD hp] at h3;exact ⟨gv,gt,h1,h2.at,h3⟩
theorem WalkE.vis (h:WalkE w B own gk L T) (k:Vis w w'):WalkE w' B own gk L T:=by
 obtain ⟨gv,gt,h1,h2,h3,h4,h5⟩:=h;exact ⟨gv,gt,k.bk h1 dC dC,h2,h3.vis k,k.bk h4 dC dC,h5⟩
theorem WalkE.far (h:WalkE w B own gk L T) {H:Nat->Prop} (k:Keep H w w') (hH:∀b,H b->own b≠2/\own b < 16):WalkE w' B own gk L T:=by
 obtain ⟨gv,gt,h1,h2,h3,h4,h5⟩:=h;exact ⟨gv,gt,k.bk h1 (fun f=>by have:=hH _ f;omega),h2,h3.far k hH,k.bk h4 (fun f=>by have:=hH _ f;omega),h5⟩
theorem WalkE.paint (h:WalkE w B own gk L T) (h1:∀b,b < w.heap.size->2<=own b->own' b=own b) (h2:∀b,own' b≠0->B<=b/\b < w.heap.size):WalkE w B own' gk L T:=by
 obtain ⟨gv,gt,g1,g2,g3,g4,g5⟩:=h;exact ⟨gv,gt,g1,by rw [h1 _ g1.lt oM];exact g2,g3.paint h1 h2,g4,by rw [h1 _ g4.lt oM];exact g5⟩
theorem WalkE.tally {T':List Nat} (h:WalkE w B own gk L T) (hp:T.Perm T'):WalkE w B own gk L T':=by
 obtain ⟨gv,gt,g1,g2,g3,g4,g5⟩:=h;rw [uD hp] at g4;exact ⟨gv,gt,g1,g2,g3,g4,g5⟩
theorem WaveE.bnd (h:WaveE w B own gk L):∀b,own b≠0->B<=b/\b < w.heap.size:=by
 obtain ⟨S,v,h⟩:=h;exact h.bnd
theorem WalkE.bnd (h:WalkE w B own gk L T):∀b,own b≠0->B<=b/\b < w.heap.size:=by
 obtain ⟨gv,gt,g1,g2,g3,g4,g5⟩:=h;exact g3.bnd
end
structure Grew (w w':World) (own own':Nat->Nat):Prop where
 old:∀b,b < w.heap.size->own' b=own b
 new:∀b,w.heap.size<=b->own' b≠1
 keep:Keep (fun b=>own b=2∨16<=own b) w w'
theorem Grew.refl {w:World} {own:Nat->Nat} (h:∀b,own b≠0->b < w.heap.size):Grew w w own own:=⟨fun _ _=>rfl,fun b hb e=>by have:=h b oM;omega,Keep.refl _ _⟩
theorem Grew.trans {w w1 w':World} {own own1 own':Nat->Nat} (h:Grew w w1 own own1) (k:Grew w1 w' own1 own'):Grew w w' own own':=by
 have hs:=h.keep.size;refine ⟨fun b hb=>(k.old b oM).trans (h.old b hb),fun b hb=>?_,h.keep.trans' k.keep fun b hb f=>by rw [<-h.old b hb];exact f⟩;by_cases c:b < w1.heap.size;rw [k.old b c];exact h.new b hb;exact k.new b oM
theorem Grew.of_vb {B:Nat} {w w':World} {own:Nat->Nat} (k:Keep (fun b=>own b=2∨16<=own b) w w') (h:∀b,own b≠0->b < w.heap.size):Grew w w' own own:=⟨fun _ _=>rfl,fun b hb e=>by have:=h b oM;omega,k⟩
theorem aCv {t:List UInt8} {rs:List Nat} (h:IsSuf (aG t) rs):rs[0]?=some t.length:=by
 obtain ⟨e1,e2,e3⟩:=eF t;obtain ⟨j,hj,ej⟩:=h.row (p:=t.length) oM;rcases zBa j with h0 | h0
 · subst h0;rw [zAa hj,ej]
 · exfalso;have h1:=zAr.1 h.sorted 0 j oM hj h0;rw [ej] at h1;have hq:=h.lt (zBj (show 0 < rs.length by omega));have hne:rs[0]' oM≠t.length:=fun e=>by exact (zAr.1 h.nodup 0 j oM hj h0) (by rw [e,ej])
   rw [iK,eZ (by omega:t.length < (aG t).length),eZ hq,e2] at h1;have:=e3 (rs[0]' oM) oM;rcases h1 with h1 | h1;omega;omega
theorem vP {l rs:List Nat} (h:IsSuf l rs) {i j p:Nat} (hi:rs[i]?=some p) (hj:rs[j]?=some p):i=j:=by
 obtain ⟨hi1,hi2⟩:=zAc.1 hi;obtain ⟨hj1,hj2⟩:=zAc.1 hj;rcases Nat.lt_trichotomy i j with h1 | h1 | h1;exact absurd (by rw [hi2,hj2]) (zAr.1 h.nodup i j hi1 hj1 h1);exact h1;exact absurd (by rw [hi2,hj2]) (zAr.1 h.nodup j i hj1 hi1 h1)
end
section
open Go.RowKit Go.Shelf
open Go.Sort (Holds)
theorem PermX.drewN {w:World} {F:Nat->Prop} {gp ga:Nat} {vl vo vt vf:Value} {R P:Nat} {ks:List Nat} {C:List (Nat×Nat)} {tk:List Bool} {fr:List Nat} (h:PermX w F gp ga vl vo vt vf R P ks C tk fr) (q:Nat):PermX (w.drewN q) F gp ga vl vo vt vf R P ks C tk fr:=
 { h with at_:=h.at_.below (below_drewN bR _)}
theorem PermX.sorted {w w':World} {F:Nat->Prop} {gp ga:Nat} {vl vo vt vf:Value} {R P:Nat} {ks ks':List Nat} {C:List (Nat×Nat)} {tk:List Bool} {fr:List Nat} (h:PermX w F gp ga vl vo vt vf R P ks C tk fr) (hp:ks'.Perm ks) (k:Keep (fun b=>vo.ownBlock=some b) w w') (ho:w'.ownsRow 0 3 1 vo ks.length (ks'.map sv)):PermX w' F gp ga vl vo vt vf R P ks' C tk fr:=by
 have a:=h.at_;have hne:∀b t cs,Bk w b t cs->t≠3->¬(vo.ownBlock=some b):=fun b t cs hb ht e=>by obtain ⟨cs',hc⟩:=eW a.orow e;exact ht (aR hb hc).1
 refine { h with at_:=⟨k.bk a.blk (hne _ _ _ a.blk dC),aA a.lrow fun b cs _ hb=>k.bk hb (hne _ _ _ hb dC),by rw [hp.length_eq];exact ho,k.bk a.ar (hne _ _ _ a.ar dC),aA a.trow fun b cs _ hb=>k.bk hb (hne _ _ _ hb dC),aA a.frow fun b cs hb hk=>k.bk hk fun e=>?_,a.apart,fun x hx=>a.lt x (hp.subset hx),a.lo⟩,nd:=hp.nodup_iff.2 h.nd,tkk:=fun x=>(h.tkk x).trans hp.mem_iff.symm };rcases a.apart with f | f
 · rw [f] at e;cases e
 exact f (e.trans hb.symm)
end
section
open Go.RowKit Go.Shelf
def AF (ga:Nat) (vt vf:Value) (b:Nat):Prop:=b=ga∨vt.ownBlock=some b∨vf.ownBlock=some b
section
variable {w : World} {F : Nat -> Prop} {gp ga : Nat} {vl vo vt vf : Value} {R P : Nat} {ks : List Nat} {C : List (Nat × Nat)} {tk : List Bool} {fr : List Nat}
theorem PermX.arena (h:PermX w F gp ga vl vo vt vf R P ks C tk fr):ArenaE w (AF ga vt vf) ga tk fr:=by
 have a:=h.at_;obtain ⟨At,ct,e1,_⟩:=aV a.trow;obtain ⟨Af,cf,e2,_⟩:=aV a.frow;subst e1 e2;exact ⟨.inl rfl,At,ct,Af,cf,a.ar,bF a.trow (zAp _),bF a.frow (zAp _),fun b hb=>.inr (.inl hb),fun b hb=>.inr (.inr hb)⟩
end
theorem PermE.inj {w:World} {F:Nat->Prop} {gp R P:Nat} {pr:List (Nat×Nat)} (h:PermE w F gp R P pr) {x y:Nat×Nat} (hx:x∈pr) (hy:y∈pr) (e:x.1=y.1):x=y:=by
 obtain ⟨i,hi,rfl⟩:=List.getElem_of_mem hx;obtain ⟨j,hj,rfl⟩:=List.getElem_of_mem hy;rcases Nat.lt_trichotomy i j with h1 | h1 | h1;have:=zAr.1 h.2.1 i j hi hj h1;omega;subst h1;rfl;have:=zAr.1 h.2.1 j i hj hi h1;omega
end
section
open Go.RowKit
structure LiveG (w:World) (Bw gl gk gp rate n:Nat) (L:List Nat) (pr:List (Nat×Nat)):Prop where
 blk:∃mv:Int,Bk w gl 92 #[gk,gp,(rate:Int),.int .i64 mv]
 walk:WalkAt w Bw gk L
 perm:PermR w gp n n pr
theorem LiveG.vis {w w':World} {Bw gl gk gp rate n:Nat} {L:List Nat} {pr:List (Nat×Nat)} (h:LiveG w Bw gl gk gp rate n L pr) (k:Vis w w'):LiveG w' Bw gl gk gp rate n L pr:=by
 obtain ⟨mv,h1⟩:=h.blk;exact ⟨⟨mv,k.bk h1 dC dC⟩,h.walk.vis k,h.perm.vis k⟩
theorem LiveG.lvw {w:World} {Bw gl gk gp rate n:Nat} {L:List Nat} {pr:List (Nat×Nat)} (h:LiveG w Bw gl gk gp rate n L pr):LvW w Bw gl L:=by
 obtain ⟨mv,h1⟩:=h.blk;exact ⟨gk,_,_,_,h1,h.walk⟩
theorem LiveG.mono {w:World} {Bw B' gl gk gp rate n:Nat} {L:List Nat} {pr:List (Nat×Nat)} (h:LiveG w Bw gl gk gp rate n L pr) (hB:B'<=Bw):LiveG w B' gl gk gp rate n L pr:=⟨h.blk,h.walk.mono hB,h.perm⟩
theorem LiveG.lt {w:World} {Bw gl gk gp rate n:Nat} {L:List Nat} {pr:List (Nat×Nat)} (h:LiveG w Bw gl gk gp rate n L pr):gl < w.heap.size:=h.lvw.lt
theorem uH (C:List (Nat×Nat)):C=(List.range C.length).map fun k=>(aB C k,aH C k):=by
 apply List.ext_getElem?;intro i;rw [zAf];by_cases h:i < C.length;rw [zCk h,zAa h];unfold aB aH;rw [Option.map_some,zAb,zAa h];rfl;rw [zBg oM,zBg (by simpa using h)];rfl
theorem LiveAt.g {w:World} {Bw gl gk gp ga:Nat} {vl vo vt:Value} {B n rate:Nat} {L:List Nat} {C:List (Nat×Nat)} {tk:List Bool} (h:LiveAt w Bw gl gk gp ga vl vo vt B n rate L C tk) (hC:C.Pairwise (fun a b=>a.1 < b.1)) (hl:C.length<=1000):LiveG w Bw gl gk gp rate n L C:=
 ⟨⟨0,h.blk⟩,h.walk,B,ga,vl,vo,vt,_,_,C,tk, [],h.perm,aBc C hC,hl,by rw [zCi];exact hl,uH C⟩
theorem wU {rs:List Nat} {rate n:Nat} (hn:n<=rs.length):∀x∈cT rs rate n,rs[x.1]?=some x.2:=fun x hx=>by
 obtain ⟨h1,h2⟩:=oI hx;rw [h2,zAb,zAa (show x.1 < rs.length by omega)];rfl
theorem aGa {t:List UInt8} {rs:List Nat} {rate:Nat} (hs:IsSuf (aG t) rs):∃x∈cT rs rate (t.length+1),x.2=0:=by
 obtain ⟨j,hj,ej⟩:=hs.row (p:=0) (by rw [aT];omega);refine ⟨(j,0),(aHX _ _ _ _ _).2 ⟨?_,?_,Nat.zero_mod _⟩,rfl⟩;have:=hs.len;rw [aT] at this;omega;rw [zAb,zAa hj,ej];rfl
theorem fV (Bw gl gk gp rate:Nat) (t:List UInt8) (rs:List Nat) (C:List (Nat×Nat)) (i p:Nat) (w:World) (h:LiveG w Bw gl gk gp rate (t.length+1) (aE (aG t) rs) C) (hrt:∀x∈C,rs[x.1]?=some x.2) (hs:IsSuf (aG t) rs) (hn:t.length<=127) (hip:rs[i]?=some p):
 Calls Tryz.prog 40 #[gl,(p:Int)] w fun e w'=>e=.returned (.int .i64 (i:Int))/\VB Bw w w':=by
 have hl:rs.length=t.length+1:=by rw [hs.len,aT]
 have hL:(aE (aG t) rs).length=t.length+1:=by rw [bU,hl]
 have hpN:p < t.length+1:=by have:=hs.lt (zAd hip);rwa [aT] at this
 have hr0:=aCv hs;obtain ⟨N,hN⟩:=eqx t.length;have hstep:∀a b:Nat,rs[a]?=some (b+1)->∃s a',(aE (aG t) rs)[a]?=some s/\cJ (aE (aG t) rs) s a=a'/\rs[a']?=some b:=fun a b hab=>by obtain ⟨ha,ea⟩:=zAc.1 hab;have hbm:b+1 < (aG t).length:=hs.lt (zAd hab);obtain ⟨a',ha',ea'⟩:=hs.row (p:=b) oM;have he:=eF t;have hla:=rP he ha ea (by rw [aT] at hbm;omega);exact ⟨(aG t).getD b 0,a',zAc.2 ⟨_,hla⟩,lf hs he ha ha' ea ea',zAc.2 ⟨ha',ea'⟩⟩
 have hle:∀a b:Nat,rs[a]?=some b->b<=t.length/\a<=t.length:=fun a b hab=>by have h1:=hs.lt (zAd hab);rw [aT] at h1;have h2:=(zAc.1 hab).1;omega
 have huni:∀a,rs[a]?=some p->a=i:=fun a ha=>vP hs ha hip;rw [hN] at h;rw [hN] at hL hpN hn hl hr0 hle;have hp0:decide ((p:Int) < 0)=false:=by simp
 have hp1:¬N < p:=oM;have hp2:decide (N < p)=false:=zBy hp1;obtain ⟨H,Hr0,HCm,Hstep,Hle,Huni,HL⟩:=hqq7 h hr0 hrt hstep hle huni hL;have HLt:=lhd (dM (eT t) (rs:=rs));obtain ⟨mv,hblk⟩:=h.blk;have c0:=hblk.cell 0;have c1:=hblk.cell 1;have hlt:=hblk.lt;clear h hr0 hrt hstep hle huni hL hs hip hN hl hblk;go_enter Tryz.func40,Tryz.ntmps40;go_wp2_with fail;refine (cB Bw gl _ N w H.out.lvw HL.out oM).mono ?_;rintro e w1 ⟨rfl,rfl⟩;go_wp2_with fail;refine (cB Bw gl _ N w H.out.lvw HL.out oM).mono ?_;rintro e w1 ⟨rfl,rfl⟩;go_wp2_with fail;have hnext:=pP gp (N+1) (N+1) C p w H.out.perm;unfold tZ at hnext;refine hnext.mono ?_;rintro e w2 ⟨z,rfl,hz,hb2⟩;clear hnext;have hv2:VB Bw w w2:=VisK.of_below hb2;have h2:=H.out.vis hv2.1;obtain ⟨mv2,hblk2⟩:=h2.blk;have c20:=hblk2.cell 0;have c21:=hblk2.cell 1;have hlt2:=hblk2.lt;obtain ⟨H2,Hv2⟩:=hqq2 h2 hv2;clear hb2 hv2 h2 c0 c1 hlt hblk2;rcases hz with ⟨hz,_⟩|⟨⟨k1,q⟩,hk,hz,hkp,_⟩
 · subst hz;go_wp2_with fail;go_loopw [5,6] (fun x y wr=>∃a r:Nat,p<=a/\a<=N/\rs[r]?=some a/\x=.int .i64 (a:Int)/\y=.int .i64 (r:Int)/\VB Bw w wr) (fun x _ _=>(intOf x).toNat)
   case atStart=>exact ⟨N,0,by omega,zAs _,Hr0.out,rfl,rfl,Hv2.out⟩
   case round=>
    obtain ⟨a,r,hpa,haN,hra,rfl,rfl,hv⟩:=hrel;have h1:=H.out.vis hv.1;obtain ⟨mv1,hblk1⟩:=h1.blk;have c10:=hblk1.cell 0;have hlt1:=hblk1.lt;obtain ⟨Hv,H1,Hra⟩:=hqq3 hv h1 hra;clear h1 hv hra hblk1;by_cases hap:p < a
    · obtain ⟨b,hb⟩:∃b,a=b+1:=⟨a - 1,by omega⟩;obtain ⟨s,r',hs1,hs2,hs3⟩:=Hstep.out r b (by rw [<-hb];exact Hra.out);have e1:IntKind.i64.wrap ((a:Int) - 1)=(b:Int):=(by rw [IntKind.wrap_i64];omega);obtain ⟨Hs1,Hs2,Hs3⟩:=hqq3 hs1 hs2 hs3;have hbp:p<=b:=oM;have hbN:b < a:=oM;clear hs1 hs2 hs3 hb;go_wp2_with fail;refine (mU Bw gk _ r s wr H1.out.walk Hs1.out HLt.out (by rw [HL.out];omega)).mono ?_;rintro e w5 ⟨rfl,hv5⟩;rw [Hs2.out];have hv6:=Hv.out.trans hv5;have Hv6:=lhd hv6;clear hv5 hv6;go_wp2_with fail;go_roundw
      case rel=>exact ⟨b,r',hbp,by omega,Hs3.out,by go_num,by first | rfl | trivial,Hv6.out⟩
      case measure=>simp [intOf];omega
    · obtain rfl:a=p:=oM;have hri:=Huni.out r Hra.out;subst hri;go_wp2_with fail;go_ret;exact ⟨rfl,Hv.out⟩
 · subst hz;have hkp:p<=q:=hkp;have hex:∃x∈C,x.2=q:=⟨_,hk,rfl⟩;have hq0:decide ((q:Int)>=0)=true:=(by simp);go_wp2_with fail;have hrow:=sQ gp (N+1) (N+1) C q w2 H2.out.perm hex;unfold zB at hrow;refine hrow.mono ?_;rintro e w3 ⟨r0,hrm,rfl,hb3⟩;have hrq:=HCm.out _ hrm;have hrq:rs[r0]?=some q:=hrq;have hv3:=Hv2.out.below hb3;obtain ⟨Hrq,Hv3⟩:=hqq2 hrq hv3;have hqN:=(Hle.out r0 q hrq).1;clear hrow hrm hrq hb3 hv3 hex c20 c21 hlt2 hq0;go_wp2_with fail;go_loopw [5,6] (fun x y wr=>∃a r:Nat,p<=a/\a<=N/\rs[r]?=some a/\x=.int .i64 (a:Int)/\y=.int .i64 (r:Int)/\VB Bw w wr) (fun x _ _=>(intOf x).toNat)
   case atStart=>exact ⟨q,r0,hkp,hqN,Hrq.out,rfl,rfl,Hv3.out⟩
   case round=>
    obtain ⟨a,r,hpa,haN,hra,rfl,rfl,hv⟩:=hrel;have h1:=H.out.vis hv.1;obtain ⟨mv1,hblk1⟩:=h1.blk;have c10:=hblk1.cell 0;have hlt1:=hblk1.lt;obtain ⟨Hv,H1,Hra⟩:=hqq3 hv h1 hra;clear h1 hv hra hblk1;by_cases hap:p < a
    · obtain ⟨b,hb⟩:∃b,a=b+1:=⟨a - 1,by omega⟩;obtain ⟨s,r',hs1,hs2,hs3⟩:=Hstep.out r b (by rw [<-hb];exact Hra.out);have e1:IntKind.i64.wrap ((a:Int) - 1)=(b:Int):=(by rw [IntKind.wrap_i64];omega);obtain ⟨Hs1,Hs2,Hs3⟩:=hqq3 hs1 hs2 hs3;have hbp:p<=b:=oM;have hbN:b < a:=oM;clear hs1 hs2 hs3 hb;go_wp2_with fail;refine (mU Bw gk _ r s wr H1.out.walk Hs1.out HLt.out (by rw [HL.out];omega)).mono ?_;rintro e w5 ⟨rfl,hv5⟩;rw [Hs2.out];have hv6:=Hv.out.trans hv5;have Hv6:=lhd hv6;clear hv5 hv6;go_wp2_with fail;go_roundw
      case rel=>exact ⟨b,r',hbp,by omega,Hs3.out,by go_num,by first | rfl | trivial,Hv6.out⟩
      case measure=>simp [intOf];omega
    · obtain rfl:a=p:=oM;have hri:=Huni.out r Hra.out;subst hri;go_wp2_with fail;go_ret;exact ⟨rfl,Hv.out⟩
end
section
open Go.RowKit Go.Shelf
theorem VisF.mono {F G:Nat->Prop} {w w':World} (h:VisF F w w') (hf:∀b,b < w.heap.size->F b->G b):VisF G w w':=⟨h.os,h.tape,h.output,h.size,fun b hb hn=>h.block b hb fun f=>hn (hf b hb f)⟩
theorem VisF.trans' {F G:Nat->Prop} {w w1 w':World} (h:VisF F w w1) (k:VisF G w1 w') (hg:∀b,b < w.heap.size->G b->F b):VisF F w w':=by
 have h2:=VisF.trans (F:=fun b=>F b∨w.heap.size<=b) (h.mono fun b _ f=>.inl f) (k.mono fun b _ g=>by
  by_cases c:b < w.heap.size;exact .inl (hg b c g)
  · exact .inr oM)
 exact h2.mono fun b hb f=>f.elim id fun e=>by omega
structure LF (B:Nat) (w w':World) (own own':Nat->Nat):Prop where
 old:∀b,b < w.heap.size->own' b=own b
 vis:VisF (fun b=>own b≠0) w w'
 keep:Keep (fun b=>B<=b) w w'
theorem LF.refl (B:Nat) (w:World) (own:Nat->Nat):LF B w w own own:=⟨fun _ _=>rfl,VisF.of_vis (Vis.refl w),Keep.refl _ _⟩
theorem LF.trans {B:Nat} {w w1 w':World} {own own1 own':Nat->Nat} (h:LF B w w1 own own1) (k:LF B w1 w' own1 own'):LF B w w' own own':=by
 have hs:=h.keep.size;refine ⟨fun b hb=>(k.old b oM).trans (h.old b hb),h.vis.trans' k.vis fun b hb f=>?_,h.keep.trans k.keep⟩;rw [<-h.old b hb];exact f
theorem LF.of_vb {B:Nat} {w w':World} {own:Nat->Nat} (k:VB B w w'):LF B w w' own own:=⟨fun _ _=>rfl,VisF.of_vis k.1,k.2⟩
structure LiveM (w:World) (B:Nat) (own:Nat->Nat) (gl gk gp rate:Nat) (mv:Int) (R P:Nat) (L T:List Nat) (pr:List (Nat×Nat)):Prop where
 blk:Bk w gl 92 #[gk,gp,(rate:Int),.int .i64 mv]
 col:own gl=3
 walk:WalkE w B own gk L T
 perm:PermE w (fun b=>own b=1) gp R P pr
section
variable {w w' : World} {B : Nat} {own own' : Nat -> Nat} {gl gk gp rate : Nat} {mv : Int} {R P R' P' : Nat} {L T L' T' : List Nat} {pr pr' : List (Nat × Nat)}
theorem LiveM.bnd (h:LiveM w B own gl gk gp rate mv R P L T pr):∀b,own b≠0->B<=b/\b < w.heap.size:=h.walk.bnd
theorem LiveM.lo (h:LiveM w B own gl gk gp rate mv R P L T pr):B<=gl:=(h.bnd gl (by rw [h.col];decide)).1
theorem LiveM.gw (h:LiveM w B own gl gk gp rate mv R P L T pr):∃gv gt,Bk w gk 100 #[.pointer (some ⟨gv,0,none⟩),.pointer (some ⟨gt,0,none⟩)]/\WaveAt w B gv L:=by
 obtain ⟨gv,gt,h1,_,h2,_⟩:=h.walk;exact ⟨gv,gt,h1,h2.at⟩
theorem LiveM.vis (h:LiveM w B own gl gk gp rate mv R P L T pr) (k:Vis w w'):LiveM w' B own gl gk gp rate mv R P L T pr:=
 ⟨k.bk h.blk dC dC,h.col,h.walk.vis k,h.perm.vis k⟩
theorem LiveM.len (h:LiveM w B own gl gk gp rate mv R P L T pr):LvW w B gl L∨¬T.Perm L:=by
 by_cases c:T.Perm L;exact .inl ⟨gk,_,_,_,h.blk,h.walk.at c⟩;exact .inr c
theorem LiveM.permR (h:LiveM w B own gl gk gp rate mv R P L T pr):PermR w gp R P pr:=by
 obtain ⟨⟨ga,vl,vo,vt,vf,ks,C,tk,fr,hx,e⟩,hs,hb⟩:=h.perm;rw [e] at hs;have hs0:=List.pairwise_map.1 hs;have hkl:=iA hx.nd hx.at_.lt;exact ⟨0,ga,vl,vo,vt,vf,ks,C,tk,fr,hx.at_,hs0,hx.sz,by have:=hx.sz;omega,e⟩
theorem LiveM.g (h:LiveM w B own gl gk gp rate mv R R L T pr) (hT:T.Perm L):LiveG w B gl gk gp rate R L pr:=⟨⟨mv,h.blk⟩,h.walk.at hT,h.permR⟩
end
section
variable {w : World} {B : Nat} {own : Nat -> Nat} {gl gk gp rate : Nat} {mv : Int} {R P : Nat} {L T : List Nat} {pr : List (Nat × Nat)}
end
section
variable {w0 wr : World} {B : Nat} {kP own : Nat -> Nat} {gl gk gp rate : Nat} {mv : Int} {S T : List Nat} {N j : Nat} {R : List Nat} {pr0 pr : List (Nat × Nat)}
end
theorem Grew.after {w w5 w8:World} {own own2:Nat->Nat} (hb:∀b,own b≠0->b < w.heap.size) (hs:Keep (fun b=>own b=2∨16<=own b) w w5) (g:Grew w5 w8 own own2):Grew w w8 own own2:=by
 have h1:=hs.size;refine ⟨fun b hlt=>g.old b oM,fun b hge e=>?_,hs.trans g.keep⟩;by_cases c:b < w5.heap.size;have h2:=g.old b c;have h3:=hb b oM;omega;exact g.new b oM e
theorem PermE.len {w:World} {F:Nat->Prop} {gp R P:Nat} {pr:List (Nat×Nat)} (h:PermE w F gp R P pr):pr.length<=R:=by
 have h1:(pr.map fun x=>x.1).Nodup:=by rw [List.Nodup,List.pairwise_map];exact h.2.1.imp fun {a b} hab=>Nat.ne_of_lt hab
 have h2:=iA (n:=R) h1 fun k hk=>by obtain ⟨x,hx,rfl⟩:=zAy.1 hk;exact (h.2.2 x hx).1
 simpa using h2
def Smp (pr:List (Nat×Nat)) (p:Nat):Prop:=∃x∈pr,x.2=p
structure FG (S:Nat->Prop) (r N at_:Nat) (q:Int):Prop where
 zero:S 0
 le:∀s,S s->s<=N
 at_q:q=-1∨q=((N+1:Nat):Int)∨∃s:Nat,S s/\q=(s:Int)
 fine:∀s:Nat,S s->((s:Int) < q∨at_<=s)->s+r<=N->∃s',S s'/\s < s'/\s'<=s+r
 gap2:∀s:Nat,S s->s+2*r<=N->∃s',S s'/\s < s'/\s'<=s+2*r
def pS (S:Nat->Prop) (r N:Nat):Prop:=∀s:Nat,S s->s+r<=N->∃s',S s'/\s < s'/\s'<=s+r
theorem FG.congr {S S':Nat->Prop} {r N at_:Nat} {q:Int} (h:FG S r N at_ q) (e:∀p,S' p↔S p):FG S' r N at_ q:=by
 have:S'=S:=funext fun p=>propext (e p);rw [this];exact h
structure TxM (w:World) (B:Nat) (own:Nat->Nat) (gl gk gp rate:Nat) (mv:Int) (S T:List Nat) (N:Nat) (rs:List Nat) (pr:List (Nat×Nat)):Prop where
 suf:IsSuf S rs
 live:LiveM w B own gl gk gp rate mv (N+1) (N+1) (aE S rs) T pr
 tal:T.Perm (aE S rs)
 right:∀x∈pr,rs[x.1]?=some x.2
theorem TxM.vis {w w':World} {B:Nat} {own:Nat->Nat} {gl gk gp rate:Nat} {mv:Int} {S T:List Nat} {N:Nat} {rs:List Nat} {pr:List (Nat×Nat)} (h:TxM w B own gl gk gp rate mv S T N rs pr) (k:Vis w w'):TxM w' B own gl gk gp rate mv S T N rs pr:=⟨h.suf,h.live.vis k,h.tal,h.right⟩
def LiveE (w:World) (B:Nat) (own:Nat->Nat) (gl:Nat) (t:List UInt8) (rate:Nat):Prop:=
 ∃gk gp mv T rs pr,TxM w B own gl gk gp rate mv (aG t) T t.length rs pr/\Smp pr 0/\pS (Smp pr) rate t.length
theorem LiveE.vis {w w':World} {B:Nat} {own:Nat->Nat} {gl:Nat} {t:List UInt8} {rate:Nat} (h:LiveE w B own gl t rate) (k:Vis w w'):LiveE w' B own gl t rate:=by
 obtain ⟨gk,gp,mv,T,rs,pr,h1,h2⟩:=h;exact ⟨gk,gp,mv,T,rs,pr,h1.vis k,h2⟩
theorem LiveE.bnd {w:World} {B:Nat} {own:Nat->Nat} {gl:Nat} {t:List UInt8} {rate:Nat} (h:LiveE w B own gl t rate):∀b,own b≠0->B<=b/\b < w.heap.size:=by
 obtain ⟨gk,gp,mv,T,rs,pr,h1,h2⟩:=h;exact h1.live.bnd
theorem TxM.len {w:World} {B:Nat} {own:Nat->Nat} {gl gk gp rate:Nat} {mv:Int} {t:List UInt8} {T:List Nat} {N:Nat} {rs:List Nat} {pr:List (Nat×Nat)} (h:TxM w B own gl gk gp rate mv (aG t) T N rs pr) (hN:t.length=N):(aE (aG t) rs).length=N+1/\T.length=N+1/\rs.length=N+1:=by
 have h1:=h.suf.len;rw [aT,hN] at h1;have h2:(aE (aG t) rs).length=N+1:=by rw [bU,h1]
 exact ⟨h2,by rw [h.tal.length_eq,h2],h1⟩
end
section
open Go.RowKit
def TpAt (w:World) (Bw gl:Nat) (t:List UInt8) (rate:Nat):Prop:=
 ∃rs gk gp pr,IsSuf (aG t) rs/\LiveG w Bw gl gk gp rate (t.length+1) (aE (aG t) rs) pr/\(∀x∈pr,rs[x.1]?=some x.2)/\(∃x∈pr,x.2=0)/\t.length<=127
theorem TpAt.vis {w w':World} {Bw gl:Nat} {t:List UInt8} {rate:Nat} (h:TpAt w Bw gl t rate) (k:Vis w w'):TpAt w' Bw gl t rate:=by
 obtain ⟨rs,gk,gp,pr,h1,h2,h3⟩:=h;exact ⟨rs,gk,gp,pr,h1,h2.vis k,h3⟩
theorem VB.grow {Bw:Nat} {w w1 w2:World} (h:VB Bw w w1) (k:Below w.heap.size w1 w2):VB Bw w w2:=
 ⟨⟨k.os.trans h.1.os,k.tape.trans h.1.tape,k.output.trans h.1.output,zAk h.1.size k.size,fun b hb hn=>by
   rcases h.1.block b hb hn with e |⟨cs,v,h1,h2⟩|⟨cs,v,h1,h2⟩;exact .inl ((k.block b hb).trans e);exact .inr (.inl ⟨cs,v,h1,h2.below k hb⟩)
   · exact .inr (.inr ⟨cs,v,h1,h2.below k hb⟩)⟩,
  ⟨k.os.trans h.2.os,k.tape.trans h.2.tape,k.output.trans h.2.output,zAk h.2.size k.size,fun b hb hn=>(k.block b hb).trans (h.2.block b hb hn)⟩⟩
theorem TpAt.mono {w:World} {B B' gl:Nat} {t:List UInt8} {rate:Nat} (h:TpAt w B gl t rate) (hB:B'<=B):TpAt w B' gl t rate:=by
 obtain ⟨rs,gk,gp,pr,h1,h2,h3⟩:=h;exact ⟨rs,gk,gp,pr,h1,h2.mono hB,h3⟩
theorem aFp (w:World) (e:TypeId) (cs:Array Value) (fr:Nat×Nat) (n:Nat) (hs:cs.size=n):Rd (w.alloc (.cells cs e fr)) (w.heap.size+1) 1 (some ⟨w.heap.size,0,none⟩) n cs.toList:=by
 refine ⟨by simp [hs],fun _=>⟨_,0,rfl,by omega,fun j u hu=>?_⟩⟩;rw [zBi,cell_of_row (w.alloc (.cells cs e fr)) w.heap.size j cs e fr (heap_alloc_new w _)];simpa using hu
theorem tG (w:World) (C:Array Value) (n c:Nat):(convert 26 26 (.slice (some ⟨w.heap.size,0,none⟩) n c)).run Tryz.prog (w.alloc (.cells C 5))=.ok (.slice (some ⟨w.heap.size,0,none⟩) n c) (w.alloc (.cells C 5 (C.size,C.size+1))):=
 Lib.run_convert_bytes_const (P:=Tryz.prog) w 26 5 C n c Tryz.underlying26 Tryz.underlying5
theorem aIp {t:List UInt8} {rs:List Nat} (h:IsSuf (aG t) rs) {i j p:Nat} {c:UInt8} (hi:rs[i]?=some (p+1)) (hj:rs[j]?=some p) (hc:t[p]?=some c):
 (aE (aG t) rs)[i]?=some (c.toNat+1)/\cJ (aE (aG t) rs) (c.toNat+1) i=j:=by
 obtain ⟨hi1,hi2⟩:=zAc.1 hi;obtain ⟨hj1,hj2⟩:=zAc.1 hj;have hp:=(zAc.1 hc).1;have hg:(aG t).getD p 0=c.toNat+1:=by unfold aG dF;rw [zAb,zAn (by simpa using hp),zAf,hc];rfl
 have h1:=lf h (eF t) hi1 hj1 hi2 hj2;have h2:=rP (eF t) hi1 hi2 hp;rw [hg] at h1 h2;exact ⟨zAc.2 ⟨_,h2⟩,h1⟩
theorem uT (c:UInt8) (s:Nat) (hs:s=c.toNat+1) (w:World):
 Calls Tryz.prog 108 #[(s:Int)] w fun e w'=>e=.returned (.tuple #[bv c,.bool true])/\Below w.heap.size w w':=by
 have hc:=c.toNat_lt;have e0:¬((s:Int)=0):=oM;have e1:((s:Int)==0)=false:=by rw [zCb];omega
 have e2:IntKind.i64.wrap ((s:Int) - 1)=(c.toNat:Int):=by rw [IntKind.wrap_i64];omega
 have e3:IntKind.u8.wrap (c.toNat:Int)=(c.toNat:Int):=by rw [IntKind.wrap_u8];omega
 have e4:¬s=0:=oM;have e5:decide (s=0)=false:=zBy e4;have hs257:s < 257:=oM;clear hs hc;go_enter Tryz.func108,Tryz.ntmps108;go_wp2_with fail;refine (fJ s w hs257).mono ?_;rintro e w1 ⟨rfl,hb⟩;go_wp2_with fail;go_ret2;exact ⟨rfl,hb⟩
@[irreducible] def zerC (n:Nat):Array Value:=kS .i64 n fun _=>0
@[irreducible] def filC (L:List Nat) (k:Nat):Array Value:=kS .i64 257 fun s=>if s < k then cJ L s 0 else 0
@[irreducible] def firC (L:List Nat) (k:Nat):Array Value:=kS .i64 257 fun s=>cJ L s k
@[irreducible] def toC (L:List Nat) (n k:Nat):Array Value:=kS .i64 n fun i=>if i < k then cJ L (L.getD i 0) i else 0
@[irreducible] def seenC (rs:List Nat) (n j:Nat):Array Value:=kS .i64 n fun i=>if j < rs.getD i 0 then 1 else 0
@[irreducible] def txtC (t:List UInt8) (j:Nat):Array Value:=kS .u8 t.length fun p=>if p < j then 0 else (t.getD p 0).toNat
theorem aFl (n:Nat):Array.replicate n (Value.int .i64 0)=zerC n:=by unfold zerC;exact pD _ _
theorem aGD (L:List Nat):Array.replicate 257 (Value.int .i64 0)=filC L 0:=by
 unfold filC;rw [pD];exact dE fun i hi=>by rw [zBw oM]
theorem aIK {L:List Nat} {k:Nat} (h:k < 257):(filC L k).setIfInBounds k (.int .i64 ((L.countP (fun x=>decide (x < k)):Nat):Int))=filC L (k+1):=by
 unfold filC;rw [lY h];refine dE fun i hi=>?_;by_cases e:i=k
 · subst e;rw [zBx rfl,zBx oM];unfold cJ;simp
 · rw [zBw e];by_cases e2:i < k
   · rw [zBx e2,zBx oM]
   · rw [zBw e2,zBw oM]
theorem aIM (L:List Nat):filC L 257=firC L 0:=by
 unfold filC firC;exact dE fun i hi=>by rw [zBx hi]
theorem aIL {L:List Nat} {k s:Nat} (h:s < 257):∃v,(filC L k)[s]?=some v:=by
 unfold filC;exact ⟨_,gE h⟩
theorem aIJ {L:List Nat} {k s:Nat} (h:s < 257):(firC L k)[s]?=some (.int .i64 ((cJ L s k:Nat):Int)):=by
 unfold firC;exact gE h
theorem aII {L:List Nat} {k x:Nat} (hx:L[k]?=some x) (h:x < 257):(firC L k).setIfInBounds x (.int .i64 ((cJ L x k+1:Nat):Int))=firC L (k+1):=by
 unfold firC;rw [lY h];refine dE fun i hi=>?_;rw [aGo hx];by_cases e:i=x
 · subst e;simp
 · rw [zBw e,zBw e]
theorem aHz (L:List Nat) (n:Nat):zerC n=toC L n 0:=by
 unfold zerC toC;exact dE fun i hi=>by rw [zBw oM]
theorem aFn {L:List Nat} {n k i:Nat} (h:i < n):(toC L n k)[i]?=some (.int .i64 (((if i < k then cJ L (L.getD i 0) i else 0:Nat)):Int)):=by
 unfold toC;exact gE h
theorem aJo {L:List Nat} {n k x:Nat} (hx:L[k]?=some x) (h:k < n):(toC L n k).setIfInBounds k (.int .i64 ((cJ L x k:Nat):Int))=toC L n (k+1):=by
 unfold toC;rw [lY h];refine dE fun i hi=>?_;by_cases e:i=k;subst e;rw [zBx rfl,zBx oM,zAb,hx];rfl
 · rw [zBw e];by_cases e2:i < k
   · rw [zBx e2,zBx oM]
   · rw [zBw e2,zBw oM]
theorem aD7 {rs:List Nat} {n j:Nat} (h:∀p∈rs,p<=j):zerC n=seenC rs n j:=by
 unfold zerC seenC;refine dE fun i hi=>?_;rw [zBw];rw [zAb];cases e:rs[i]? with
 | none=>simp
 | some p=>simpa using h p (zAd e)
theorem aF9 {rs:List Nat} {n j i:Nat} (h:i < n) (hi:rs[i]?=some j):(seenC rs n j)[i]?=some (.int .i64 0):=by
 unfold seenC;rw [gE h,zAb,hi];simp
theorem aF8 {rs:List Nat} {n q i:Nat} {l:List Nat} (hs:IsSuf l rs) (hn:rs.length=n) (h:i < n) (hi:rs[i]?=some (q+1)):(seenC rs n (q+1)).setIfInBounds i (.int .i64 ((1:Nat):Int))=seenC rs n q:=by
 unfold seenC;rw [lY h];refine dE fun k hk=>?_;by_cases e:k=i
 · subst e;rw [zBx rfl,zAb,hi,zBx (by simp)]
 · rw [zBw e];obtain ⟨p,hp⟩:∃p,rs[k]?=some p:=⟨_,zAa oM⟩;have hne:p≠q+1:=fun e2=>e (vP hs (by rw [hp,e2]) hi);rw [zAb,hp];simp only [Option.getD_some];by_cases e3:q+1 < p
   · rw [zBx e3,zBx oM]
   · rw [zBw e3,zBw oM]
theorem aFR (t:List UInt8):Array.replicate t.length (Value.int .u8 0)=txtC t t.length:=by
 unfold txtC;rw [pD];exact dE fun i hi=>by rw [zBx hi]
theorem aHw {t:List UInt8} {q:Nat} {c:UInt8} (hc:t[q]?=some c):(txtC t (q+1)).setIfInBounds q (bv c)=txtC t q:=by
 have hq:=(zAc.1 hc).1;unfold txtC bv;rw [lY hq];refine dE fun i hi=>?_;by_cases e:i=q;subst e;rw [zBx rfl,zBw oM,zAb,hc];rfl
 · rw [zBw e];by_cases e2:i < q
   · rw [zBx e2,zBx oM]
   · rw [zBw e2,zBw oM]
theorem aHx {t:List UInt8} {j q:Nat} (h:q < t.length):∃v,(txtC t j)[q]?=some v:=by
 unfold txtC;exact ⟨_,gE h⟩
theorem aHy (t:List UInt8):(txtC t 0).toList=t.map bv:=by
 unfold txtC;rw [aGO];apply List.ext_getElem?;intro i;rw [zAf,zAf];by_cases h:i < t.length
 · rw [zCk h,zAa h];simp [bv,h]
 rw [zBg (by simpa using h),zBg (by simpa using h)];rfl
theorem aFS (t:List UInt8) (j:Nat):(txtC t j).size=t.length:=by unfold txtC;exact lX _ _ _
theorem aGd (n:Nat) (hn:n<=1000000) (w:World):(Instr.makeSlice 26 (.int .i64 (n:Int)) (.int .i64 (n:Int))).run Tryz.prog w=.ok (.slice (some ⟨w.heap.size,0,none⟩) n n) (w.alloc (.cells (Array.replicate n (.int .u8 0)) 5)):=by
 obtain ⟨i0,hi0,hz0,hz1,hz2⟩:=info_parts vK;have:=run_make (P:=Tryz.prog) w 26 5 i0 (.int .u8 0) Tryz.underlying26 hi0 hz0 .i64 .i64 n n oM (Int.le_refl _) (by rw [hz2];omega) oM;rw [this,hz1];have e:madeCells #[.int .u8 0] n=Array.replicate n (.int .u8 0):=by apply Array.ext';rw [toList_madeCells_one];simp
 simp only [Value.cells,zBr,zBl];rw [e]
theorem zA (A:Option Addr) (c B:Nat) (t:List UInt8) (rs:List Nat) (w:World) (hs:IsSuf (aG t) rs) (hr:Rd w B 1 A (t.length+1) ((aE (aG t) rs).map sv)) (hB:B<=w.heap.size) (hm:t.length<=127):
 Calls Tryz.prog 49 #[.slice A (t.length+1) c] w fun e w'=>∃A' c',e=.returned (.tuple #[.slice A' t.length c',.bool true])/\Made w' w.heap.size 5 1 A' t.length c' (t.map bv)/\Below w.heap.size w w':=by
 obtain ⟨L,hL⟩:=eqx (aE (aG t) rs);have hlt:=dM (rs:=rs) (eT t);have hc0:=aEO hs;have hlen:L.length=t.length+1:=by rw [<-hL,bU,hs.len,aT]
 rw [hL] at hr hlt hc0;obtain ⟨N,hN⟩:=eqx t.length;obtain ⟨n,hn⟩:=eqx (N+1);rw [hN,hn] at hr hlen;rw [hN] at hm;have hnew:=sD A n c B L w hr hB oM hlt;obtain ⟨bA,oA,rfl,hbA,hcA⟩:=hr.2 oM;have hcell:∀wr,Below w.heap.size w wr->∀(k x:Nat),L[k]?=some x->wr.cell? ⟨bA,oA+k,none⟩=some (.int .i64 (x:Int)):=fun wr hb k x hx=>(hb.cell (p:=⟨bA,oA+k,none⟩) (zAl hbA hB)).trans (hcA k _ (by rw [zAf,hx];rfl));obtain ⟨Hr,Hcell,Hlt,Hlen,HL,HN,Hc0⟩:=hqq7 hr hcell hlt hlen hL hN hc0;rw [hN,hn];clear hr hcA hcell hlt hlen hL hN hc0;go_enter Tryz.func49,Tryz.ntmps49;go_wp2_with fail;refine hnew.mono ?_;clear hnew;rintro e w1 ⟨gt,rfl,hgt,hbt,hb1⟩;obtain ⟨Hbt,Hb1⟩:=hqq2 hbt hb1;clear hbt hb1;go_wp2_with fail;have hof:=uR gt L 0 w1 Hbt.out oM;rw [Hc0.out] at hof;refine hof.mono ?_;clear hof;rintro e W0 ⟨rfl,hb2⟩;obtain ⟨Hbt0,Hb0⟩:=hqq2 (Hbt.out.below hb2 Hbt.out.lt) (Hb1.out.trans (hb2.mono Hb1.out.size));clear hb2 Hbt Hb1;go_wp2_with fail;have hn128:n<=128:=oM;refine wp_region_any kR ?_;refine wK [29,30,31,32,33,34,6,7] [31,34] 8 (Grow) (Below W0.heap.size W0) [k0 (is (.slice (some ⟨bA,oA,none⟩) n c)),k0 (is (n:Int)),k0 (fun v w2=>∃g,v=.slice (some ⟨g,0,none⟩) n n/\W0.heap.size<=g/\Bk w2 g 3 (zerC n)),k0 (is (.slice (some ⟨bA,oA,none⟩) n c)),k0 (is (n:Int)),k0 (fun v w2=>∃g,v=.slice (some ⟨g,0,none⟩) n n/\W0.heap.size<=g/\Bk w2 g 3 (zerC n)),kEq 31,kEq 34] _ _ rfl kR kR (bR.drew) (yE rfl) (fun w w' h k=>k.elim (fun k=>h.trans (k.mono h.size)) (fun k=>h.trans (k.mono h.size))) (by repeat' (first | exact aEM _ | exact aFG _ |(refine zAe.2 ⟨?_,?_⟩)|(intro p hp;cases hp))) (by repeat' (first | exact vM _ _ | exact qV _ _ | exact jP (fun _ _ _ ⟨g,h1,h2,h3⟩ k=>⟨g,h1,h2,h3.below k h3.lt⟩)|(refine zAe.2 ⟨?_,?_⟩)|(intro p hp;cases hp))) (by simp only [List.eraseIdx_cons_zero,List.eraseIdx_cons_succ,List.eraseIdx_nil];repeat' (first | exact vM _ _ | exact qV _ _ | exact jP (fun _ _ _ ⟨g,h1,h2,h3⟩ k=>⟨g,h1,h2,h3.below k h3.lt⟩)|(refine zAe.2 ⟨?_,?_⟩)|(intro p hp;cases hp))) ?_ ?_
 · refine aM ?_;refine aD (cU rfl rfl fun ev _ _ _ _ _ hold _ _ _ _ hK=>?_) ?_
   · have e0:ev (.tmp 0)=.slice (some ⟨bA,oA,none⟩) n c:=hold 0 kR;clear hold;go_simp;exact hK _ _ (dL bR rfl rfl) rfl
   refine aD (cU rfl rfl fun _ _ _ _ _ _ hold hval _ _ _ hK=>?_) ?_
   · have e29:_=_:=hval 0 29 kR rfl;clear hold;go_simp;exact hK _ _ (dL bR rfl rfl) rfl
   refine aD (cU rfl rfl fun _ _ hCA _ _ _ hold hval _ _ _ hK=>?_) ?_
   · obtain ⟨hS,hAp⟩:=hCA;have e30:_=_:=hval 1 30 kR rfl;clear hold;have kz:=nO n oM;go_simp;exact hK _ _ (jX (bR.alloc nL _) rfl (fun g hg=>by simp [blk?] at hg;subst hg;simp)) ⟨_,rfl,hS.size,by rw [<-aFl];exact Bk.new _ _ _⟩
   refine aD (cU rfl rfl fun ev _ _ _ _ _ hold _ _ _ _ hK=>?_) ?_
   · have e0:ev (.tmp 0)=.slice (some ⟨bA,oA,none⟩) n c:=hold 0 kR;clear hold;go_simp;exact hK _ _ (dL bR rfl rfl) rfl
   refine aD (cU rfl rfl fun _ _ _ _ _ _ hold hval _ _ _ hK=>?_) ?_
   · have e32:_=_:=hval 3 32 kR rfl;clear hold;go_simp;exact hK _ _ (dL bR rfl rfl) rfl
   refine aD (cU rfl rfl fun _ _ hCA _ _ _ hold hval _ _ _ hK=>?_) ?_
   · obtain ⟨hS,hAp⟩:=hCA;have e33:_=_:=hval 4 33 kR rfl;clear hold;have kz:=nO n oM;go_simp;exact hK _ _ (jX (bR.alloc nL _) rfl (fun g hg=>by simp [blk?] at hg;subst hg;simp)) ⟨_,rfl,hS.size,by rw [<-aFl];exact Bk.new _ _ _⟩
   refine aD (cU rfl rfl fun _ _ _ _ _ _ hold _ _ _ _ hK=>?_) ?_
   · clear hold;go_simp;exact hK _ _ (dL bR rfl rfl) rfl
   refine aD (cU rfl rfl fun _ _ _ _ _ _ hold _ _ _ _ hK=>?_) ?_
   · clear hold;go_simp;exact hK _ _ (dL bR rfl rfl) rfl
   exact aC
 · intro ev w6 hS hAp hval hall;have e6:ev (.tmp 6)=ev (.tmp 31):=hval 6 6 rfl;have e7:ev (.tmp 7)=ev (.tmp 34):=hval 7 7 rfl;have p31:(fun v w2=>∃g,v=.slice (some ⟨g,0,none⟩) n n/\W0.heap.size<=g/\Bk w2 g 3 (zerC n)) (ev (.tmp 31)) w6:=hval 2 31 rfl;have p34:(fun v w2=>∃g,v=.slice (some ⟨g,0,none⟩) n n/\W0.heap.size<=g/\Bk w2 g 3 (zerC n)) (ev (.tmp 34)) w6:=hval 5 34 rfl;simp only [aI,zq1,zq2,Act.put,zq3,zq4,zq5];clear hval hall;obtain ⟨gs,hs1,hs2,hs3⟩:=p31;obtain ⟨go,ho1,ho2,ho3⟩:=p34;have hd1:gs≠go:=fun e=>hAp.2 31 (by simp) 34 (by simp) dC gs (by rw [hs1];rfl) (by rw [ho1,e];rfl);have hb6:=Hb0.out.trans (hS.mono Hb0.out.size);have hbt6:=Hbt0.out.below hS Hbt0.out.lt;have hge:=Hb0.out.size;rw [e6,e7,hs1,ho1];generalize ev (.tmp 29)=u29;generalize ev (.tmp 30)=u30;generalize ev (.tmp 32)=u32;generalize ev (.tmp 33)=u33;obtain ⟨Hs3,Ho3,Hb6,Hbt6⟩:=hqq4 hs3 ho3 hb6 hbt6;clear hs3 ho3 hb6 hbt6 hAp e6 e7 hs1 ho1 hS;go_wp2_with fail;obtain ⟨gf,hgf⟩:∃g,w6.heap.size=g:=⟨_,rfl⟩;have hf0:Bk (w6.alloc (.cells Tryz.zeroCells148 148)) gf 148 (filC L 0):=(by rw [<-hgf,<-aGD];exact Bk.new _ _ _);have hs0:=Hs3.out.alloc (.cells Tryz.zeroCells148 148);have ho0:=Ho3.out.alloc (.cells Tryz.zeroCells148 148);have ht0:=Hbt6.out.alloc (.cells Tryz.zeroCells148 148);have hb0:=Hb6.out.alloc Hb6.out.size (.cells Tryz.zeroCells148 148);have hgfs:gs < gf:=(by rw [<-hgf];exact Hs3.out.lt);have hgfo:go < gf:=(by rw [<-hgf];exact Ho3.out.lt);have hgft:gt < gf:=(by rw [<-hgf];exact Hbt6.out.lt);have hgts:gt≠gs:=Bk.ne Hbt6.out Hs3.out dC;have hgto:gt≠go:=Bk.ne Hbt6.out Ho3.out dC;rw [hgf];generalize w6.alloc (.cells Tryz.zeroCells148 148)=W1 at hf0 hs0 ho0 ht0 hb0⊢;clear Hs3 Ho3 Hb6 Hbt6 Hbt0 Hb0 hgf;go_loopw [35] (fun i wr=>∃k:Nat,k<=257/\i=.int .i64 (k:Int)/\Bk wr gf 148 (filC L k)/\Bk wr gs 3 (zerC n)/\Bk wr go 3 (zerC n)/\Bk wr gt 199 (tcells L)/\Below w.heap.size w wr) (fun i _=>257 -(intOf i).toNat)
   case atStart=>exact ⟨0,by omega,rfl,hf0,hs0,ho0,ht0,hb0⟩
   case round=>
    clear hf0 hs0 ho0 ht0 hb0;obtain ⟨k,hk,rfl,hf,hz,ho,ht,hb⟩:=hrel;by_cases hlt:k < 257
    · have hk1:((k:Int) < 257):=oM;have hbel:=kM gt L k wr ht hlt (by rw [Hlen.out];omega);obtain ⟨q,hq⟩:∃q,L.countP (fun x=>decide (x < k))=q:=⟨_,rfl⟩;have hset:=aIK (L:=L) hlt;rw [hq] at hbel hset;obtain ⟨Hf,Hz,Ho,Ht,Hset⟩:=hqq5 hf hz ho ht hset;clear hf hz ho ht hset hq;go_wp2_with fail;refine hbel.mono ?_;clear hbel;rintro e w7 ⟨rfl,hb7⟩;have hf7:=Hf.out.below hb7 Hf.out.lt;obtain ⟨v0,hv0⟩:=aIL (L:=L) (k:=k) hlt;have c7:=(hf7.cell k).trans hv0;have f7:=hf7.frozen k;have Hf7:=lhd hf7;clear hf7 hv0;go_wp2_with fail;go_roundw
      case rel=>exact ⟨k+1,by omega,by go_num,by rw [<-Hset.out];exact Hf7.out.set k _,(Hz.out.below hb7 Hz.out.lt).far (by simp;omega) _,(Ho.out.below hb7 Ho.out.lt).far (by simp;omega) _,(Ht.out.below hb7 Ht.out.lt).far (by simp;omega) _,(hb.trans (hb7.mono hb.size)).setCell (by simp;omega) _⟩
      case measure=>simp [intOf];omega
    · have hks:k=257:=oM;subst hks;rw [aIM] at hf;have e257:((257:Nat):Int)=257:=rfl;rw [e257];clear e257;obtain ⟨Hf,Hz,Ho,Hb⟩:=hqq4 hf hz ho hb;clear hf hz ho ht hb hlt hk;go_wp2_with fail;have hgo0:w.heap.size<=go:=oM;have hgs0:w.heap.size<=gs:=oM;have hgf0:w.heap.size<=gf:=oM;have hne1:gf≠go:=oM;have hne2:go≠gf:=oM;go_loopw [46] (fun i wr=>∃k:Nat,k<=n/\i=.int .i64 (k:Int)/\Bk wr gf 148 (firC L k)/\Bk wr gs 3 (zerC n)/\Bk wr go 3 (toC L n k)/\Below w.heap.size w wr) (fun i _=>n -(intOf i).toNat)
      case atStart=>exact ⟨0,by omega,rfl,Hf.out,Hz.out,by rw [<-aHz];exact Ho.out,Hb.out⟩
      case round=>
         clear Hf Hz Ho Hb;obtain ⟨k,hk,rfl,hf,hz,ho,hb⟩:=hrel;by_cases hlt:k < n
         · obtain ⟨x,hx⟩:∃x,L[k]?=some x:=⟨_,zAa (by rw [Hlen.out];exact hlt)⟩;have hx257:=Hlt.out x (zAd hx);have c1:=Hcell.out wr hb k x hx;obtain ⟨q,hq⟩:=eqx (cJ L x k);have hql:q<=1000:=(by have:=vU L x k;rw [hq,Hlen.out] at this;omega);have c2:wr.cell? ⟨gf,x,none⟩=some (.int .i64 (q:Int)):=(by rw [<-hq];exact (hf.cell x).trans (aIJ hx257));have f2:=hf.frozen x;have c3:wr.cell? ⟨go,k,none⟩=some (.int .i64 (((if k < k then cJ L (L.getD k 0) k else 0:Nat)):Int)):=(ho.cell k).trans (aFn hlt);have f3:=ho.frozen k;have hset1:=aJo hx hlt;have hset2:=aII hx hx257;rw [hq] at hset1 hset2;have hadd:IntKind.i64.wrap ((q:Int)+1)=((q+1:Nat):Int):=(by rw [IntKind.wrap_i64];omega);obtain ⟨Hf,Hz,Ho,Hset1,Hset2⟩:=hqq5 hf hz ho hset1 hset2;clear hf hz ho hset1 hset2 hq;go_wp2_with fail;go_roundw
           case rel=>exact ⟨k+1,by omega,by go_num,by rw [<-Hset2.out];exact (Hf.out.far (p:=⟨go,k,none⟩) hne1 _).set x _,(Hz.out.far (p:=⟨go,k,none⟩) hd1 _).far (p:=⟨gf,x,none⟩) (Nat.ne_of_lt hgfs) _,by rw [<-Hset1.out];exact (Ho.out.set k _).far (p:=⟨gf,x,none⟩) hne2 _,(hb.setCell (p:=⟨go,k,none⟩) hgo0 _).setCell (p:=⟨gf,x,none⟩) hgf0 _⟩
           case measure=>simp [intOf];omega
         · have hks:n=k:=oM;subst hks;obtain ⟨Hz,Ho,Hb⟩:=hqq3 hz ho hb;have hge2:=hb.size;clear hf hz ho hb hlt hk hne1 hne2;have hNn:((n:Int) - 1)=(N:Int):=oM;have kz:=aGd N oM;go_wp2_with fail;obtain ⟨gx,hgx⟩:∃g,wr.heap.size=g:=⟨_,rfl⟩;have hx0:Bk (wr.alloc (.cells (Array.replicate N (.int .u8 0)) 5)) gx 5 (txtC t N):=(by rw [<-hgx,<-HN.out,<-aFR];exact Bk.new _ _ _);have hs0:=Hz.out.alloc (.cells (Array.replicate N (.int .u8 0)) 5);have ho0:=Ho.out.alloc (.cells (Array.replicate N (.int .u8 0)) 5);have hb0:=Hb.out.alloc Hb.out.size (.cells (Array.replicate N (.int .u8 0)) 5);have hgxs:gs≠gx:=Nat.ne_of_lt (by rw [<-hgx];exact Hz.out.lt);have hgxo:go≠gx:=Nat.ne_of_lt (by rw [<-hgx];exact Ho.out.lt);have hgx0:w.heap.size<=gx:=(by rw [<-hgx];exact Hb.out.size);rw [hgx];generalize wr.alloc (.cells (Array.replicate N (.int .u8 0)) 5)=W2 at hx0 hs0 ho0 hb0⊢;clear Hz Ho Hb hgx kz hge2;have hrl:rs.length=n:=(by have:=congrArg List.length HL.out;rw [bU,Hlen.out] at this;exact this);have hle:∀p∈rs,p<=N:=fun p hp=>by have:=hs.lt hp;rw [aT,HN.out] at this;omega
           rw [aD7 hle] at hs0;have hrow0:=aCv hs;rw [HN.out] at hrow0;obtain ⟨Hrl,Hle,Hs⟩:=hqq3 hrl hle hs;clear hrl hle;go_loopw [13,14] (fun r i wr=>∃j p:Nat,j<=N/\rs[p]?=some j/\r=.int .i64 (p:Int)/\i=.int .i64 ((j:Int) - 1)/\Bk wr gs 3 (seenC rs n j)/\Bk wr go 3 (toC L n n)/\Bk wr gx 5 (txtC t j)/\Below w.heap.size w wr) (fun _ i _=>(intOf i+1).toNat)
           case atStart=>exact ⟨N,0,by omega,hrow0,rfl,by first | rfl | go_num,hs0,ho0,hx0,hb0⟩
           case round=>
            clear hs0 ho0 hx0 hb0 hrow0;obtain ⟨j,p,hj,hp,rfl,rfl,hz,ho,hx,hb⟩:=hrel;have hpl:p < n:=(by rw [<-Hrl.out];exact (zAc.1 hp).1);by_cases hj0:j=0
            · subst hj0;have hl0:=aGs Hs.out hp;rw [HL.out] at hl0;have c1:=Hcell.out wr hb p 0 hl0;have hj1:(((0:Nat):Int) - 1)=-1:=rfl;rw [hj1];have hmx:=aFA (B:=w.heap.size) hx hgx0 ((aFS t 0).trans HN.out) (by unfold maxLen;omega);rw [aHy] at hmx;obtain ⟨Hmx,Hb⟩:=hqq2 hmx hb;clear hz ho hx hb hmx hl0;have hlast:=oD (some ⟨gx,0,none⟩) N N wr.heap.size t wr Hmx.out.rd nL oM;rw [hn] at hlast;go_wp2_with fail;refine hlast.mono ?_;clear hlast;rintro e w8 ⟨rs2,A8,c8,hs2,rfl,hm8,hb8⟩;have hrs:=hs2.unique Hs.out;subst hrs;rw [HL.out] at hm8;have hsame:=yZ A8 (some ⟨bA,oA,none⟩) n c8 c w8.heap.size L w8 hm8.rd (((Hr.out.below (Hb.out.mono hB)).below (hb8.mono (by have:=Hb.out.size;omega))).mono (by have:=Hb.out.size;have:=hb8.size;omega)) nL oM;have Hb8:=lhd hb8;clear hb8 hm8 hs2 c1;go_wp2_with fail;refine hsame.mono ?_;clear hsame;rintro e w9 ⟨rfl,hb9⟩;have Hb9:=lhd hb9;clear hb9;go_wp2_with fail;go_ret2;have hb89:=Hb8.out.trans (Hb9.out.mono Hb8.out.size);exact ⟨_,_,rfl,Hmx.out.below hb89,Hb.out.trans (hb89.mono Hb.out.size)⟩
            · obtain ⟨q,rfl⟩:∃q,j=q+1:=⟨j - 1,by omega⟩;have hq1:(((q+1:Nat):Int) - 1)=(q:Int):=oM;rw [hq1];have hqN:q < t.length:=(by rw [HN.out];omega);obtain ⟨ch,hch⟩:∃ch,t[q]?=some ch:=⟨_,zAa hqN⟩;obtain ⟨p2,hp2l,hp2e⟩:=Hs.out.row (p:=q) (by rw [aT,HN.out];omega);have hp2:rs[p2]?=some q:=(by rw [zAa hp2l,hp2e]);obtain ⟨ho1,ho2⟩:=aIp Hs.out hp hp2 hch;rw [HL.out] at ho1 ho2;have c1:=Hcell.out wr hb p _ ho1;obtain ⟨s,hsv⟩:=eqx (ch.toNat+1);have hby:=uT ch s hsv.symm wr;rw [hsv] at ho1 ho2 c1;have hset1:=aF8 (n:=n) Hs.out Hrl.out hpl hp;have hset2:=aHw hch;have hgo:(toC L n n)[p]?=some (.int .i64 (p2:Int)):=(by rw [aFn hpl,zBx hpl,zAb,ho1];show some (Value.int .i64 ((cJ L s p:Nat):Int))=_;rw [ho2]);obtain ⟨v0,hv0⟩:=aHx (t:=t) (j:=q+1) hqN;obtain ⟨Hp2,Hset1,Hset2,Hgo,Hz,Ho,Hx,Hv0,Hsg⟩:=hqq9 hp2 hset1 hset2 hgo hz ho hx hv0 (aF9 hpl hp);clear hp2 hp2e hp2l ho1 ho2 hsv hset1 hset2 hgo hz ho hx hv0 hch;go_wp2_with fail;refine hby.mono ?_;clear hby;rintro e w8 ⟨rfl,hb8⟩;have hz8:=Hz.out.below hb8 Hz.out.lt;have ho8:=Ho.out.below hb8 Ho.out.lt;have hx8:=Hx.out.below hb8 Hx.out.lt;have d1:=(hz8.cell p).trans Hsg.out;have d2:=hz8.frozen p;have d3:=(ho8.cell p).trans Hgo.out;have d4:=(hx8.cell q).trans Hv0.out;have d5:=hx8.frozen q;have hgos:go≠gs:=fun e=>hd1 e.symm;have hgxs2:gx≠gs:=fun e=>hgxs e.symm;have hgxo2:gx≠go:=fun e=>hgxo e.symm;obtain ⟨Hz8,Ho8,Hx8,Hb8⟩:=hqq4 hz8 ho8 hx8 (hb.trans (hb8.mono hb.size));clear hz8 ho8 hx8 hb8 hb;unfold bv;go_wp2_with fail;go_roundw
              case rel=>
               refine ⟨q,p2,by omega,Hp2.out,rfl,?_,?_,?_,?_,?_⟩
               · first | rfl | go_num
               rw [<-Hset1.out];exact (Hz8.out.set p _).far (p:=⟨gx,q,none⟩) hgxs _;exact (Ho8.out.far (p:=⟨gs,p,none⟩) hgos _).far (p:=⟨gx,q,none⟩) hgxo _;rw [<-Hset2.out];exact (Hx8.out.far (p:=⟨gs,p,none⟩) hgxs2 _).set q _;exact (Hb8.out.setCell (p:=⟨gs,p,none⟩) hgs0 _).setCell (p:=⟨gx,q,none⟩) hgx0 _
              case measure=>simp [intOf]
end
end Go.Proofs.YthldmddkfbijhaaGreatDoor
