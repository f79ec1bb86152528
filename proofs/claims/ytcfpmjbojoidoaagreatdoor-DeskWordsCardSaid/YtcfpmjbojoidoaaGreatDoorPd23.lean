/- Lemmas of the walk. Conditions: each its own. -/
import Derived.Test.YtcfpmjbojoidoaaGreatDoorPd22
import Derived.Test.YtcfpmjbojoidoaaGreatDoorProg
import Derived.Test.YtcfpmjbojoidoaaGreatDoorSht
import Derived.Test.YtcfpmjbojoidoaaGreatDoorShl
import Derived.Test.YtcfpmjbojoidoaaGreatDoorShi
import Derived.Test.YtcfpmjbojoidoaaGreatDoorShd
import Derived.Test.YtcfpmjbojoidoaaGreatDoorShs
set_option linter.all false
set_option maxRecDepth 100000
set_option maxHeartbeats 4000000
open Go.Proofs.Tryz
namespace Go.Proofs.YtcfpmjbojoidoaaGreatDoor
section
open Go.RowKit
def aFI (a d:Nat) (b:World) (s:a<=2147483648) (l:1<=d) (m:d<=64):
 Calls prog 7 #[(a:Int),(d:Int)] b fun j p=>∃k c own,j=.returned (.tuple #[.pointer (some ⟨k,0,none⟩),.int .i64 0])/\StAt p b.heap.size own k c a d []/\Below b.heap.size b p:=by
 have n:=qW d none 0 0 b.heap.size [] [] 0 rfl rfl b (Rd.nil _ _ _ _) (fun z t=>by cases t) nL oM oM l m;have x:¬((a:Int) < 0):=oM;have u:¬((a:Int) > 2147483648):=oM;have y:decide ((a:Int) > 2147483648)=false:=zBy u;have i:=lhd n;clear n;go_enter func7,ntmps7;go_wp2_with fail;refine i.out.mono ?_;rintro j w1 ⟨c,own,rfl,w,g,e⟩;have f:Below w1.heap.size w1 (w1.alloc (.cells #[.pointer (some ⟨c,0,none⟩),(a:Int)] 47)):=bR.alloc nL _;have o:StAt (w1.alloc (.cells #[.pointer (some ⟨c,0,none⟩),(a:Int)] 47)) b.heap.size own w1.heap.size c a d []:=
  ⟨Bk.new _ _ _,e.size,Nat.eq_zero_of_not_pos fun v=>by have:=(g.bnd w1.heap.size oM).2;omega,g.vis (Vis.of_below f),by simp,by simp,s,l,m⟩
 obtain ⟨r,q⟩:=hqq2 o (e.trans (f.mono e.size));clear o f e g i;go_wp2_with fail;go_ret2;exact ⟨_,c,own,rfl,r.out,q.out⟩
def aCx (a:Int) (d:Option Addr) (g e:Nat) (c:World) (k:a < 1∨a > 64):
 Calls prog 13 #[.int .i64 a,.slice d g e] c fun f j=>f=.returned (.tuple #[.pointer none,.int .i64 1])/\c=j:=by
 by_cases b:a < 1
 · have i:decide (a < 1)=true:=zBz b;go_enter func13,ntmps13;go_wp2_with fail;go_ret2;exact ⟨rfl,rfl⟩
 · have i:decide (a < 1)=false:=zBy b;have l:decide (a > 64)=true:=zBz oM;go_enter func13,ntmps13;go_wp2_with fail;go_ret2;exact ⟨rfl,rfl⟩
def xN (a:Nat) (b:Int) (c:World) (k:a<=2147483648) (f:b < 1∨b > 64):
 Calls prog 7 #[(a:Int),.int .i64 b] c fun d j=>d=.returned (.tuple #[.pointer none,.int .i64 1])/\c=j:=by
 have e:=aCx b none 0 0 c f;have l:¬((a:Int) < 0):=oM;have i:¬((a:Int) > 2147483648):=oM;have m:decide ((a:Int) > 2147483648)=false:=zBy i;have g:=lhd e;clear e f;go_enter func7,ntmps7;go_wp2_with fail;refine g.out.mono ?_;rintro d w1 ⟨rfl,rfl⟩;go_wp2_with fail;go_ret2;exact ⟨rfl,rfl⟩
def aCw (ρ:List UInt8->List Nat) (b:Nat) (own:Nat->Nat) (e N i a4:Nat) (a V:List UInt8) (a5:World) (be:IsSuf (aI a) (ρ a)) (af:StAt a5 b own e N i a4 a) (aR:oH V) (bo:V.length<=100000) (bl:i<=127) (an:TabD a5) (g:7 < b) (l:1 < b) (m:0 < b):
 Calls prog 11 #[e,.string ⟨V.toArray⟩] a5 (mL a5 b own e i a4 (iZ ρ (i:Int) a V).1 (iZ ρ (i:Int) a V).2):=by
 have hcut:=aEC V a5 oM an.mx;have aJ:=aBZ V;have K:=af.size;have aM:=af.len;unfold iZ;cases ay:(eP V).2.2 with
 | false=>
   rw [zBx rfl];have bd:=aFz ay;have b1:=fun w1 (av:Below a5.heap.size a5 w1)=>aFZ ρ b own e N i a4 a V w1 be (af.vb (Vis.of_below av)) aR (an.below (av.mono K) g l m) g l m;have b8:=lhd b1;rw [ay,bd] at hcut;have ac:=lhd hcut;clear b1 hcut aJ af aR an;go_enter func11,ntmps11;go_wp2_with fail;refine ac.out.mono ?_;rintro f w1 ⟨rfl,s⟩;have j:=lhd s;clear s;go_wp2_with fail;refine (b8.out w1 j.out).mono ?_;rintro f aj ⟨r,J,rfl,al,am⟩;obtain ⟨aF,aG⟩:=hqq2 al ((LFS.of_below b e own j.out).trans am);clear al am;go_wp2_with fail;go_ret;exact ⟨r,J,rfl,aF.out,aG.out⟩
 | true=>
   rw [zBw dC];obtain ⟨L,aQ⟩:=eqx ((eP V).1);obtain ⟨t,aO⟩:=eqx ((eP V).2.1);rw [ay,aQ,aO] at hcut;rw [aQ,aO] at aJ⊢;have bn:t.length<=100000:=oM;have bi:=af.n127;obtain ⟨ac,W,M⟩:=hqq3 hcut af an;have bv:=aII;have bw:=aJv;have bx:=aJu;clear hcut aJ af aR an aQ aO ay;by_cases aT:L= [99,111,117,110,116]
   · subst aT;rw [zBx rfl];obtain ⟨k,O⟩:∃k:Int,((dL a t).length:Int)=k:=⟨_,rfl⟩;have P:-9223372036854775808<=k/\k<=9223372036854775807:=(by have:=rW a t;omega);have D:=aIl a t (i:Int) 0 0;rw [O] at D⊢;go_enter func11,ntmps11;go_wp2_with fail;refine ac.out.mono ?_;rintro f w1 ⟨rfl,s⟩;have j:=lhd s;clear s;have q:=W.out.vb (Vis.of_below j.out);obtain ⟨ag,ae,ad,aS,aL,w,S⟩:=tR q t;have T:=q.vb (Vis.of_below w);have n:=j.out.trans (w.mono j.out.size);have R:(a:List UInt8).length<=127:=oM;have E:=jG b own e N i a4 a t a ⟨0,k, [], []⟩ 6 0 0 (some ⟨w1.heap.size,0,none⟩) ag ae ad D T S oM (M.out.below (n.mono K) g l m).tab g R;obtain ⟨Z,y⟩:=hqq2 E n;have aC:=y.out.size;clear q T E w n S R;go_wp2_with fail;refine Z.out.mono ?_;rintro f d ⟨aq,au,ah,ak,r,J,rfl,p,F,a3,X,_,_⟩;have o:=(LFS.of_below b e own y.out).trans F;have C:=o.below K;obtain ⟨Y,a1,a0⟩:=hqq3 C p o;have ab:=p.size;clear p F o C;unfold rN;have v:Below d.heap.size d (d.alloc (.cells #[.int .i64 k] 3)):=bR.alloc nL _;have G:=dZ (some ⟨d.heap.size,0,none⟩) 1 1 [k] _ (lC d k) oM (fun b0 U=>by simp at U;subst U;exact ⟨by omega,by omega⟩) ((M.out.below Y.out g l m).below (v.mono ab) g l m);obtain ⟨a2,Q⟩:=hqq2 G v;clear G v a3 X;go_wp2_with fail;refine a2.out.mono ?_;rintro f aE ⟨rfl,B⟩;have x:=lhd (Q.out.trans (B.mono Q.out.size));clear B;go_wp2_with fail;go_ret;exact ⟨r,J,by kernel_rfl,a1.out.vb (Vis.of_below x.out),a0.out.trans (LFS.of_below b e r x.out)⟩
   by_cases aU:L= [108,111,99,97,116,101]
   · subst aU;rw [zBw dC,zBx rfl];have ba:=rW a t;have b4:=vF a t;have D:=aFw a t (i:Int) 0 0;obtain ⟨ap,bb⟩:=eqx (dL a t);rw [bb] at D ba b4⊢;go_enter func11,ntmps11;go_wp2_with fail;refine ac.out.mono ?_;rintro f w1 ⟨rfl,s⟩;have j:=lhd s;clear s;obtain ⟨b7,aN⟩:=eqx ap.length;have q:=W.out.vb (Vis.of_below j.out);obtain ⟨ag,ae,ad,aS,aL,w,S⟩:=tR q t;have T:=q.vb (Vis.of_below w);have n:=j.out.trans (w.mono j.out.size);have R:(a:List UInt8).length<=127:=oM;have E:=jG b own e N i a4 a t a ⟨0,(ap.length:Int), [],ap⟩ 7 0 0 (some ⟨w1.heap.size,0,none⟩) ag ae ad D T S oM (M.out.below (n.mono K) g l m).tab g R;obtain ⟨Z,y⟩:=hqq2 E n;have aC:=y.out.size;clear q T E w n S R;go_wp2_with fail;refine Z.out.mono ?_;rintro f d ⟨aq,au,ah,ak,r,J,rfl,p,F,a3,X,_,_⟩;have o:=(LFS.of_below b e own y.out).trans F;have C:=o.below K;obtain ⟨Y,a1,a0⟩:=hqq3 C p o;have ab:=p.size;clear p F o C;have b5:Rd d d.heap.size 1 ah b7 ((lZ ap).map zv):=by have:=X.rd;unfold lZ;rw [zCg];rw [<-aN];exact this
     have G:=dZ ah b7 ak (lZ ap) d b5 oM (fun k O=>by
        obtain ⟨bf,bc,rfl⟩:=zAy.1 O;have:=b4 bf bc;omega) (M.out.below Y.out g l m)
     have a2:=lhd G;clear G b5 a3 X;unfold rN;rw [aN];clear aN;go_wp2_with fail;refine a2.out.mono ?_;rintro f aE ⟨rfl,B⟩;have x:=lhd B;clear B;go_wp2_with fail;go_ret;exact ⟨r,J,by kernel_rfl,a1.out.vb (Vis.of_below x.out),a0.out.trans (LFS.of_below b e r x.out)⟩
   rw [zBw aT,zBw aU];have bp:(L== [99,111,117,110,116])=false:=(by rw [zCb];exact aT);have bq:(L== [108,111,99,97,116,101])=false:=(by rw [zCb];exact aU);have b3:=aBZ t;have aK:=fun w1 (av:Below a5.heap.size a5 w1)=>aEC t w1 oM (M.out.below (av.mono K) g l m).mx;obtain ⟨first,ax⟩:=eqx ((eP t).1);obtain ⟨A,aw⟩:=eqx ((eP t).2.1);obtain ⟨bg,aP⟩:=eqx ((eP t).2.2);rw [ax,aw,aP] at aK;rw [ax,aw] at b3;rw [ax,aw,aP];have ai:=fun w1=>rB first w1 oM
   have az:=fun w1=>rB A w1 oM;have bk:A.length<=100000:=oM;have aH:=lhd aK;clear aK ax aw aP b3;cases aA:nO first with
   | none=>
     rw [aA] at ai;have ar:=lhd ai;clear ai az;go_enter func11,ntmps11;go_wp2_with fail;refine ac.out.mono ?_;rintro f w1 ⟨rfl,s⟩;have j:=lhd s;clear s;go_wp2_with fail;refine (aH.out w1 j.out).mono ?_;rintro f aj ⟨rfl,a9⟩;have a6:=lhd (j.out.trans (a9.mono j.out.size));clear a9;go_wp2_with fail;refine (ar.out aj).mono ?_;rintro f aZ ⟨rfl,aa⟩;have a7:=lhd (a6.out.trans (aa.mono a6.out.size));clear aa;simp only [Option.getD_none,Option.getD_some,Option.isSome_none,Option.isSome_some];go_wp2_with fail;go_ret;exact ⟨own,N,rfl,W.out.vb (Vis.of_below a7.out),LFS.of_below b e own a7.out⟩
   | some z=>
     rw [aA] at ai;have bj:=(yV aA).2.2.2.2;have ar:=lhd ai;clear ai aA;cases bg with
     | false=>
       clear az;dsimp only;rw [zBx rfl];go_enter func11,ntmps11;go_wp2_with fail;refine ac.out.mono ?_;rintro f w1 ⟨rfl,s⟩;have j:=lhd s;clear s;go_wp2_with fail;refine (aH.out w1 j.out).mono ?_;rintro f aj ⟨rfl,a9⟩;have a6:=lhd (j.out.trans (a9.mono j.out.size));clear a9;go_wp2_with fail;refine (ar.out aj).mono ?_;rintro f aZ ⟨rfl,aa⟩;have a7:=lhd (a6.out.trans (aa.mono a6.out.size));clear aa;simp only [Option.getD_none,Option.getD_some,Option.isSome_none,Option.isSome_some];go_wp2_with fail;go_ret;exact ⟨own,N,rfl,W.out.vb (Vis.of_below a7.out),LFS.of_below b e own a7.out⟩
     | true=>
       dsimp only;rw [zBw dC];obtain ⟨bh,c⟩:=eqx (aBW (i:Int) a L z A);rw [c];unfold aBW at c;go_enter func11,ntmps11;go_wp2_with fail;refine ac.out.mono ?_;rintro f w1 ⟨rfl,s⟩;have j:=lhd s;clear s;go_wp2_with fail;refine (aH.out w1 j.out).mono ?_;rintro f aj ⟨rfl,a9⟩;have a6:=lhd (j.out.trans (a9.mono j.out.size));clear a9;go_wp2_with fail;refine (ar.out aj).mono ?_;rintro f aZ ⟨rfl,aa⟩;have a7:=lhd (a6.out.trans (aa.mono a6.out.size));clear aa;simp only [Option.getD_none,Option.getD_some,Option.isSome_none,Option.isSome_some];go_wp2_with fail;refine (az aZ).mono ?_;rintro f aD ⟨rfl,b2⟩;have u:=lhd (a7.out.trans (b2.mono a7.out.size));clear b2 az;by_cases aV:L= [105,110,115,101,114,116]
       · subst aV;rw [zBx rfl] at c;have a8:=rY a A i 1 (z:Int) 0 aM;have P:=nH a A (i:Int) 1 (z:Int) 0;obtain ⟨I,H,D⟩:∃I H,doM a (i:Int) 1 (z:Int) 0 A=(I,H):=⟨_,_,rfl⟩;rw [D] at a8 P c;dsimp only at a8 P c;have q:=W.out.vb (Vis.of_below u.out);obtain ⟨ag,ae,ad,aS,aL,w,S⟩:=tR q A;have T:=q.vb (Vis.of_below w);have n:=u.out.trans (w.mono u.out.size);have R:(I:List UInt8).length<=127:=oM;have E:=jG b own e N i a4 a A I H 1 (z:Int) 0 (some ⟨aD.heap.size,0,none⟩) ag ae ad D T S oM (M.out.below (n.mono K) g l m).tab g R;obtain ⟨Z,y⟩:=hqq2 E n;have aC:=y.out.size;clear q T E w n S R;go_wp2_with fail;refine Z.out.mono ?_;rintro f d ⟨aq,au,ah,ak,r,J,rfl,p,F,a3,X,_,_⟩;have o:=(LFS.of_below b e own y.out).trans F;have C:=o.below K;obtain ⟨Y,a1,a0⟩:=hqq3 C p o;have ab:=p.size;clear p F o C;obtain ⟨k,O⟩:=eqx H.code;unfold rN;rw [O] at P c⊢;clear O;have v:Below d.heap.size d (d.alloc (.cells #[.int .i64 k] 3)):=bR.alloc nL _;have G:=dZ (some ⟨d.heap.size,0,none⟩) 1 1 [k] _ (lC d k) oM (fun b0 U=>by simp at U;subst U;exact ⟨by omega,by omega⟩) ((M.out.below Y.out g l m).below (v.mono ab) g l m);obtain ⟨a2,Q⟩:=hqq2 G v;clear G v a3 X;go_wp2_with fail;refine a2.out.mono ?_;rintro f aE ⟨rfl,B⟩;have x:=lhd (Q.out.trans (B.mono Q.out.size));clear B;go_wp2_with fail;go_ret;rw [<-c];exact ⟨r,J,by kernel_rfl,a1.out.vb (Vis.of_below x.out),a0.out.trans (LFS.of_below b e r x.out)⟩
       rw [zBw aV] at c;have br:(L== [105,110,115,101,114,116])=false:=(by rw [zCb];exact aV);by_cases aW:L= [115,101,116]
       · subst aW;rw [zBx rfl] at c;have a8:=rY a A i 3 (z:Int) 0 aM;have P:=nH a A (i:Int) 3 (z:Int) 0;obtain ⟨I,H,D⟩:∃I H,doM a (i:Int) 3 (z:Int) 0 A=(I,H):=⟨_,_,rfl⟩;rw [D] at a8 P c;dsimp only at a8 P c;have q:=W.out.vb (Vis.of_below u.out);obtain ⟨ag,ae,ad,aS,aL,w,S⟩:=tR q A;have T:=q.vb (Vis.of_below w);have n:=u.out.trans (w.mono u.out.size);have R:(I:List UInt8).length<=127:=oM;have E:=jG b own e N i a4 a A I H 3 (z:Int) 0 (some ⟨aD.heap.size,0,none⟩) ag ae ad D T S oM (M.out.below (n.mono K) g l m).tab g R;obtain ⟨Z,y⟩:=hqq2 E n;have aC:=y.out.size;clear q T E w n S R;go_wp2_with fail;refine Z.out.mono ?_;rintro f d ⟨aq,au,ah,ak,r,J,rfl,p,F,a3,X,_,_⟩;have o:=(LFS.of_below b e own y.out).trans F;have C:=o.below K;obtain ⟨Y,a1,a0⟩:=hqq3 C p o;have ab:=p.size;clear p F o C;obtain ⟨k,O⟩:=eqx H.code;unfold rN;rw [O] at P c⊢;clear O;have v:Below d.heap.size d (d.alloc (.cells #[.int .i64 k] 3)):=bR.alloc nL _;have G:=dZ (some ⟨d.heap.size,0,none⟩) 1 1 [k] _ (lC d k) oM (fun b0 U=>by simp at U;subst U;exact ⟨by omega,by omega⟩) ((M.out.below Y.out g l m).below (v.mono ab) g l m);obtain ⟨a2,Q⟩:=hqq2 G v;clear G v a3 X;go_wp2_with fail;refine a2.out.mono ?_;rintro f aE ⟨rfl,B⟩;have x:=lhd (Q.out.trans (B.mono Q.out.size));clear B;go_wp2_with fail;go_ret;rw [<-c];exact ⟨r,J,by kernel_rfl,a1.out.vb (Vis.of_below x.out),a0.out.trans (LFS.of_below b e r x.out)⟩
       rw [zBw aW] at c;have bs:(L== [115,101,116])=false:=(by rw [zCb];exact aW);cases aB:nO A with
       | none=>
         rw [aB] at c;simp only [Option.getD_none,Option.isSome_none];go_wp2_with fail
         all_goals
          go_ret;rw [<-c];exact ⟨own,N,by kernel_rfl,W.out.vb (Vis.of_below u.out),LFS.of_below b e own u.out⟩
       | some ao=>
         rw [aB] at c;have bm:=(yV aB).2.2.2.2;clear aB;dsimp only at c;simp only [Option.getD_some,Option.isSome_some];by_cases aX:L= [100,101,108,101,116,101]
         · subst aX;rw [zBx rfl] at c;have a8:=rY a [] i 2 (z:Int) (ao:Int) aM;have P:=nH a [] (i:Int) 2 (z:Int) (ao:Int);obtain ⟨I,H,D⟩:∃I H,doM a (i:Int) 2 (z:Int) (ao:Int) []=(I,H):=⟨_,_,rfl⟩;rw [D] at a8 P c;dsimp only at a8 P c;have q:=W.out.vb (Vis.of_below u.out);have n:=u.out;have E:=jG b own e N i a4 a [] I H 2 (z:Int) (ao:Int) none 0 0 aD D q aHD oM (M.out.below (n.mono K) g l m).tab g oM;obtain ⟨Z,y⟩:=hqq2 E n;have aC:=y.out.size;clear q E n;go_wp2_with fail;refine Z.out.mono ?_;rintro f d ⟨aq,au,ah,ak,r,J,rfl,p,F,a3,X,_,_⟩;have o:=(LFS.of_below b e own y.out).trans F;have C:=o.below K;obtain ⟨Y,a1,a0⟩:=hqq3 C p o;have ab:=p.size;clear p F o C;obtain ⟨k,O⟩:=eqx H.code;unfold rN;rw [O] at P c⊢;clear O;have v:Below d.heap.size d (d.alloc (.cells #[.int .i64 k] 3)):=bR.alloc nL _;have G:=dZ (some ⟨d.heap.size,0,none⟩) 1 1 [k] _ (lC d k) oM (fun b0 U=>by simp at U;subst U;exact ⟨by omega,by omega⟩) ((M.out.below Y.out g l m).below (v.mono ab) g l m);obtain ⟨a2,Q⟩:=hqq2 G v;clear G v a3 X;go_wp2_with fail;refine a2.out.mono ?_;rintro f aE ⟨rfl,B⟩;have x:=lhd (Q.out.trans (B.mono Q.out.size));clear B;go_wp2_with fail;go_ret;rw [<-c];exact ⟨r,J,by kernel_rfl,a1.out.vb (Vis.of_below x.out),a0.out.trans (LFS.of_below b e r x.out)⟩
         rw [zBw aX] at c;have bt:(L== [100,101,108,101,116,101])=false:=(by rw [zCb];exact aX);by_cases aY:L= [116,97,107,101]
         · subst aY;rw [zBx rfl] at c;have b6:=aHF b own e N i a4 a z ao aD (W.out.vb (Vis.of_below u.out)) oM oM (M.out.below (u.out.mono K) g l m) g l m;have b9:=lhd b6;clear b6;go_wp2_with fail;refine b9.out.mono ?_;rintro f bz ⟨r,J,rfl,al,am⟩;obtain ⟨aF,aG⟩:=hqq2 al ((LFS.of_below b e own u.out).trans am);clear al am;go_wp2_with fail;go_ret;rw [<-c];exact ⟨r,J,by kernel_rfl,aF.out,aG.out⟩
         rw [zBw aY] at c;have bu:(L== [116,97,107,101])=false:=(by rw [zCb];exact aY);go_wp2_with fail;go_ret;rw [<-c];exact ⟨own,N,by kernel_rfl,W.out.vb (Vis.of_below u.out),LFS.of_below b e own u.out⟩
def uH (b:World) (q:Nat) (j d n e:TypeId) (i:TypeInfo) (v:prog.underlying j=some (.slice e)) (w:prog.underlying d=some .string) (s:prog.info? e=some i) (z:i.zero=some (.int .u8 0)) (y:i.size=1) (x:i.bytes=1)
 (o:Value) (c:Nat) (l:List Value) (t:b.ownsRow q e 1 o c l) (a:ByteArray) (B:c+a.size<=maxLen) (H:c+a.size<=140737488355328) (G:q<=b.heap.size):
 ∃k p,(Builtin.append_ #[j,d] n #[o,.string a]).run prog b=.ok k p/\p.ownsRow q e 1 k (c+a.size) (l++Lib.strCells a)/\b.grownBy p o.ownBlock/\(k.ownBlock=o.ownBlock∨k.ownBlock=some b.heap.size):=by
 obtain ⟨k,p,u,D,E,F⟩:=Lib.run_append_own_string (P:=prog) b q j d n e i v w s z y x o c l t a B H G;refine ⟨k,p,u,D,E,?_⟩;rcases t.2 with ⟨rfl,rfl⟩|⟨m,r,A,rfl,O,J,S,Q,I,T⟩;by_cases K:a.size=0;rw [F.2 ⟨rfl,K⟩];exact .inl rfl;have f:=run_append_nil_string (P:=prog) b j d n e i (.int .u8 0) v w s z a oM oM (by rw [x];omega);rw [u] at f;injection f with e1 e2;rw [e1];exact .inr rfl;by_cases M:c+a.size<=r;have R:A.size=r:=(by simpa using I);have f:=Lib.run_append_room_string (P:=prog) b j d n e i v w s y m c r A J a M oM;rw [u] at f;injection f with e1 e2;rw [e1];exact .inl rfl;have L:∀C d,l[C]?=some d->b.cell? ((⟨m,0,none⟩:Addr).add C)=some d:=t.cells (g:=m) rfl;have N:l.length=c:=(by simpa using t.1);have f:=Lib.run_append_grow_string (P:=prog) b j d n e i (.int .u8 0) v w s z ⟨m,0,none⟩ c r l (by rw [y];simpa using N) L a oM (by unfold maxLen at B;omega) (by rw [x];exact growslice_fits oM oM);rw [u] at f;injection f with e1 e2;rw [e1];exact .inr rfl
def oT {c:World} {q:Array Oper} {r:List Oper} {g:Oper} {k:Act} {p:Exit->Act->World->Prop} (D:g.guard=none) (s t:Operand) (m n:TypeId)
 (F:g.op=.call { callee:=.builtin .append,args:=#[s,t],argTypes:=#[m,n] })
 (l:Nat) (d:TypeId) (e:TypeInfo) (K:prog.underlying m=some (.slice d)) (L:prog.underlying n=some .string) (E:prog.info? d=some e) (N:e.zero=some (.int .u8 0)) (J:e.size=1) (B:e.bytes=1)
 (i:Value) (f:Nat) (o:List Value) (I:k.eval s=i) (G:c.ownsRow l d 1 i f o) (a:ByteArray) (M:k.eval t=.string a) (y:f+a.size<=maxLen) (C:f+a.size<=140737488355328) (A:l<=c.heap.size)
 (u:∀b j,j.ownsRow l d 1 b (f+a.size) (o++Lib.strCells a)->c.grownBy j i.ownBlock->(b.ownBlock=i.ownBlock∨b.ownBlock=some c.heap.size)->wpList prog q p r (k.put g.dst b) j):wpList prog q p (g::r) k c:=by
 refine wpList_plain D fun O z=>?_;obtain ⟨b,j,H,v,w,x⟩:=uH c l m n g.type d e K L E N J B i f o G a y C A;unfold Oper.wp execOp;simp only [F,resolve,invoke,builtin,Sem.run_bind,Sem.run_pure,Result.andThen_ok,List.map_toArray,List.map_cons,List.map_nil,I,M,H];exact z _ _ (u b j v w x)
def BldV (e:World) (a:Nat) (d:List UInt8) (c:Value):Prop:=
 ∃b,(b=.pointer none∨b=.pointer (some a))/\e.heap[a]?=some (.cells #[b,c] 36 (0,0))/\e.ownsRow 0 5 1 c d.length (Lib.byteCells d)/\c.ownBlock≠some a
def BldV.new (a:World):BldV (a.alloc (.cells #[.pointer none,.slice none 0 0] 36)) a.heap.size [] (.slice none 0 0):=
 ⟨_,.inl rfl,heap_alloc_new a _,World.ownsRow_nil _ _ _ _,by intro b;cases b⟩
def BldV.bld {i:World} {c:Nat} {a:List UInt8} {b:Value} (j:BldV i c a b):BldAt i 0 c a:=by
 obtain ⟨l,k,e,f,g⟩:=j;have d:(Lib.byteCells a).length=a.length:=Lib.byteCells_length a;rcases k with rfl | rfl;exact .inl ⟨zAp _,b,e,by rw [d];exact f,g⟩;exact .inr ⟨zAp _,b,e,by rw [d];exact f,g⟩
def BldV.lt {c:World} {a:Nat} {f:List UInt8} {g:Value} (e:BldV c a f g):a < c.heap.size:=by
 obtain ⟨j,i,d,_⟩:=e;rcases zBe a c.heap.size with b | b;exact b
 · rw [Array.getElem?_eq_none b] at d;cases d
def xJ (a:Nat) (g:List UInt8) (i:Value) (b:World) (k:BldV b a g i):
 Calls prog 17 #[a] b fun c e=>c=.returned (.tuple #[])/\e.heap[a]?=some (.cells #[a,i] 36 (0,0))/\e.ownsRow 0 5 1 i g.length (Lib.byteCells g)/\Keep (fun f=>f=a) b e:=by
 have r:=k.bld;obtain ⟨m,q,d,l,n⟩:=k;have j:b.cell? a=some m:=by rw [Lib.cell_of_heap d];rfl
 rcases q with rfl | rfl;refine (Any.Builder_copyCheck_fresh { shWrS with } shWrX.toX72 a b j (by simp [World.shape?,d];rfl) (Lib.frozen_of_heap d 0)).mono ?_;rintro c e ⟨rfl,rfl⟩;refine ⟨rfl,(heap_setCell_same b a 0 _ _ _ d).trans rfl,?_,Keep.setCell (F:=fun f=>f=a) (p:=a) (Keep.refl _ _) (.inl rfl) _⟩;exact l.kept (row:=some a) ⟨rfl,rfl,rfl,by simp [World.setCell],fun f _ o=>Below.heap_setCell _ _ _ _ (fun c=>o (by simp [c]))⟩ (Or.inr n);refine (Any.Builder_copyCheck_used { shWrS with } shWrX.toX72 a b j).mono ?_;rintro c e ⟨rfl,rfl⟩;exact ⟨rfl,d,l,Keep.refl _ _⟩
def zH (a:Nat) (i c:List UInt8) (e:Value) (m:World) (s:BldV m a i e) (a2:i.length+c.length<=1000000000):
 Calls prog 10 #[a,eJ c] m fun b E=>(∃V,b=.returned V)/\∃v,BldV E a (i++c) v/\Keep (fun d=>d=a∨e.ownBlock=some d) m E/\∀n,v.ownBlock=some n->e.ownBlock=some n∨m.heap.size<=n:=by
 have O:e.ownBlock≠some a:=s.choose_spec.2.2.2;have L:=s.lt;have z:=xJ a i e m s;obtain ⟨S,K,P,Q,R⟩:=info_parts shWrX.infoByte;have T:=underlying34;have U:=underlying9;have y:=lhd z;clear z s;go_enter func10,ntmps10;go_wp2_with fail;refine y.out.mono ?_;rintro b w1 ⟨rfl,w,C,u⟩;have W:w1.cell? ⟨a,1,none⟩=some e:=by rw [Lib.cell_of_heap w];rfl
 go_wp2_with (at_builtin;refine oT rfl _ _ 34 9 rfl 0 5 S T U K P Q R _ _ _ rfl C ⟨c.toArray⟩ rfl ?c3 ?c4 (zAp _) ?_)
 case c3=>have H:=jP c;unfold maxLen;omega
 case c4=>have H:=jP c;omega
 intro v j r g J;have M:a < w1.heap.size:=zAl L u.size;have o:j.heap[a]?=some (.cells #[a,e] 36 (0,0)):=by rw [g.block a M (fun b=>O b.symm)];exact w
 have Y:j.cell? a=some (.pointer (some a)):=by rw [Lib.cell_of_heap o];rfl
 have Z:j.cell? ⟨a,1,none⟩=some e:=by rw [Lib.cell_of_heap o];rfl
 have a1:j.frozen? ⟨a,1,none⟩=false:=Lib.frozen_of_heap o 1;obtain ⟨k,l,f,rfl⟩:∃k l f,v=.slice k l f:=by rcases r.2 with ⟨x,_⟩|⟨n,f,X,x,_⟩;exact ⟨_,_,_,x⟩;exact ⟨_,_,_,x⟩
 have A:Keep (fun d=>d=a∨e.ownBlock=some d) m j:=by refine (u.mono fun d _ q=>.inl q).trans ⟨g.os,g.tape,g.output,g.size,fun d q N=>g.block d q fun b=>N (.inr b.symm)⟩
 have F:=lhd (A.setCell (p:=⟨a,1,none⟩) (.inl (.inl rfl)) (.slice k l f));have I:Lib.byteCells (i++c)=Lib.byteCells i++Lib.strCells ⟨c.toArray⟩:=by unfold Lib.byteCells Lib.strCells;rw [zAz]
 have a0:(⟨c.toArray⟩:ByteArray).size=c.length:=jP c;rw [<-I] at r;have B:=Lib.ownBlock_ne r o dC;have D:BldV (j.setCell ⟨a,1,none⟩ (.slice k l f)) a (i++c) (.slice k l f):=by refine ⟨_,.inr rfl,(heap_setCell_same j a 1 _ _ _ o).trans rfl,?_,B⟩;rw [zAi];exact r.kept (row:=some a) ⟨rfl,rfl,rfl,by simp [World.setCell],fun d _ q=>Below.heap_setCell _ _ _ _ (fun b=>q (by simp [b]))⟩ (Or.inr B)
 have a3:=u.size;have G:=lhd D;clear D A r u g w C y;go_wp2_with fail;go_ret2;refine ⟨⟨_,rfl⟩,.slice k l f,G.out,F.out,fun n t=>?_⟩;rcases J with b | b;exact .inl (by rw [<-b];exact t);rw [b] at t;injection t with t;exact .inr oM
end
section
def yI (b:List Int) (g:b.length<=200) (c:∀a∈b,-9223372036854775808<=a/\a<=9223372036854775807):(cU b).length<=5000:=by
 unfold cU;split
 · simp
 · have e:=aEl (b.map Lib.itoa) 20 (fun i f=>by
    obtain ⟨a,d,rfl⟩:=zAy.1 f;exact aEm a (c a d).1 (c a d).2)
   rw [zBc] at e;omega
def mO (a:Int) (c:-9223372036854775808<=a/\a<=9223372036854775807):(cU [a]).length<=5000:=
 yI [a] (by simp) (fun d b=>by simp at b;subst b;exact c)
def aEn (b:List Nat) (d:b.length<=200) (e:∀a∈b,a<=1000000):(cU (lZ b)).length<=5000:=
 yI _ (by unfold lZ;rw [zBc];exact d) (fun g f=>by
  obtain ⟨a,c,rfl⟩:=zAy.1 f;have:=e a c;omega)
def tS (b a:List UInt8) (e d f c:Int):(cU [(doM b e d f c a).2.code]).length<=5000:=
 mO _ (by have:=nH b a e d f c;omega)
def aFx (a:List UInt8) (c d b:Int):(doM a c 5 d b []).2.data.length<=a.length:=by
 unfold doM;simp only [show ((5:Int)=1)=False by simp,show ((5:Int)=2)=False by simp,if_false,if_true];split
 · simp
 simp only [zAj,zAw];omega
def aGf (a:List UInt8) (c d b:Int) (g:a.length<=127):(oW (doM a c 5 d b []).2).length<=6000:=by
 have e:=tS a [] c 5 d b;have f:=aFx a c d b;unfold oW;split;omega;split;simp only [zAi,zCf,List.length_nil];omega;rw [zAi,zAi,vB,List.length_singleton];omega
def aEz:aDM.length<=6000:=by unfold aDM;simp
def aHj (c:Int) (a i d:List UInt8) (b:Nat) (g:a.length<=127):(aBW c a i b d).2.length<=6000:=by
 have e:=aEz;unfold aBW;split;have:=tS a d c 1 b 0;dsimp only;omega;split;have:=tS a d c 3 b 0;dsimp only;omega;split;exact e
 · rename_i f _
   split;have:=tS a [] c 2 b f;dsimp only;omega;split;exact aGf a c b f g;exact e
def aBN (ρ:List UInt8->List Nat) (f:Int) (a b:List UInt8) (i:IsSuf (aI a) (ρ a)) (g:a.length<=127):(iZ ρ f a b).2.length<=6000:=by
 have c:=aEz;have j:(127:Int)>=a.length:=oM;unfold iZ;split;dsimp only;unfold aAF;split;have:=mO (a.length:Int) oM;omega;split;have:=aEn (aF (aI a) (ρ a)) (by rw [bH,i.len,aO];omega) (fun e d=>by have:=cX (dR a) e d;omega);omega;split;have:=mO 0 oM;omega;exact c;have k:=rW a (eP b).2.1;split;have:=mO ((dL a (eP b).2.1).length:Int) oM;dsimp only;omega;split;have:=aEn (dL a (eP b).2.1) oM (fun e d=>by have:=vF a (eP b).2.1 e d;omega);dsimp only;omega;split;exact c;split;exact c;exact aHj f a _ _ _ g
noncomputable def rhoS (b:List UInt8):List Nat:=by
 classical
 exact if h:∃a,IsSuf (aI b) a then h.choose else []
def uL {b:List UInt8} {a:List Nat} (d:IsSuf (aI b) a):IsSuf (aI b) (rhoS b):=by
 have c:∃a,IsSuf (aI b) a:=⟨a,d⟩;unfold rhoS;rw [dif_pos c];exact c.choose_spec
end
section
open Go.RowKit
def aDn (d:List UInt8):(bK d).length<=d.length+1/\∀b∈bK d,b.length<=d.length:=by
 induction d with
 | nil=>exact ⟨zAs _,fun b a=>by simp [bK] at a;subst a;exact zAs _⟩
 | cons i j c=>
   unfold bK;split
   · refine ⟨by simp only [zCf];omega,fun b a=>?_⟩;rcases List.mem_cons.1 a with rfl | a
     · simp
     have:=c.2 b a;simp only [zCf];omega
   · split
     · refine ⟨by simp,fun b a=>?_⟩;simp at a;subst a;simp
     · rename_i b k f
       rw [f] at c;refine ⟨by have:=c.1;simp only [zCf] at this⊢;omega,fun g e=>?_⟩;rcases List.mem_cons.1 e with rfl | e;have:=c.2 b (List.mem_cons_self ..);simp only [zCf];omega;have:=c.2 g (List.mem_cons_of_mem _ e);simp only [zCf];omega
def BldV.step {k l:World} {m c b:Nat} {own u:Nat->Nat} {j:List UInt8} {d:Value} (n:BldV k b j d) (i:LFS m c k l own u) (e:Ap own c b) (g:∀a,d.ownBlock=some a->Ap own c a):BldV l b j d:=by
 obtain ⟨v,s,o,p,q⟩:=n;refine ⟨v,s,i.bk (t:=36) o e.col e.ne dC dC,aA p fun a w f r=>?_,q⟩;exact i.bk r (g a f).col (g a f).ne dC dC
def BldV.bldB {f:World} {d e:Nat} {a:List UInt8} {c:Value} (q:BldV f e a c) (m:d<=e) (s:∀b,c.ownBlock=some b->d<=b):BldAt f d e a:=by
 obtain ⟨v,r,i,j,l⟩:=q;have g:(Lib.byteCells a).length=a.length:=Lib.byteCells_length a;have k:f.ownsRow d 5 1 c a.length (Lib.byteCells a):=by refine ⟨j.1,?_⟩;rcases j.2 with t |⟨b,o,p,n,_,u⟩;exact .inl t;exact .inr ⟨b,o,p,n,s b (by rw [n];rfl),u⟩
 rcases r with rfl | rfl;exact .inl ⟨m,c,i,by rw [g];exact k,l⟩;exact .inr ⟨m,c,i,by rw [g];exact k,l⟩
structure RunI (w wr:World) (gs gb gL most rate k:Nat) (cs:Array Value) (T out:List UInt8):Prop where
 st:∃own gl v,StAt wr w.heap.size own gs gl most rate T/\BldV wr gb out v/\Ap own gs gb/\(∀g,v.ownBlock=some g->Ap own gs g/\w.heap.size<=g)/\Kp wr own gs gL 9 cs
 bl:Below w.heap.size w wr
 lo:w.heap.size<=gb
 len:out.length<=6001*k
def RunI.next {i wr o w:World} {d c l z H I n:Nat} {p:Array Value} {own g:Nat->Nat} {x W v:List UInt8} {e:Value}
 (C:BldV wr c W e) (M:Ap own d c) (u:∀a,e.ownBlock=some a->Ap own d a/\i.heap.size<=a) (t:Kp wr own d l 9 p) (y:Below i.heap.size i wr) (V:i.heap.size<=c)
 (r:StAt o i.heap.size g d z H I x) (m:LFS i.heap.size d wr o own g)
 (J:∃q,BldV w c v q/\Keep (fun n=>n=c∨e.ownBlock=some n) o w/\∀a,q.ownBlock=some a->e.ownBlock=some a∨o.heap.size<=a) (Q:v.length<=6001*(n+1)):
 RunI i w d c l H I (n+1) p x v:=by
 obtain ⟨q,N,s,S⟩:=J;have P:c < wr.heap.size:=C.lt;obtain ⟨a0,Y,O,F,X⟩:=C;have T:∀a,e.ownBlock=some a->a < wr.heap.size:=fun a k=>(F.lt a k).2;have B:Ap g d c:=M.step m P;have G:∀a,e.ownBlock=some a->Ap g d a:=fun a k=>(u a k).1.step m (T a k);have K:∀f,(f=c∨e.ownBlock=some f)->Ap g d f:=fun f D=>D.elim (fun b=>b ▸ B) (G f);have Z:=m.size;have U:=y.size;have E:Kp o g d l 9 p:=t.step m dC dC;have R:¬(l=c∨e.ownBlock=some l):=by rintro (b | b);have A:=t.1;rw [b] at A;have j:wr.heap[c]?=some (.cells p 9 (0,0)):=A;rw [O] at j;injection j with j;injection j with _ j _;exact absurd j dC;exact aT F t.1 dC b.symm
 refine ⟨⟨g,z,q,r.far s K,N,B,fun a k=>?_,⟨s.bk E.1 R,E.2⟩⟩,?_,V,Q⟩;rcases S a k with b | b;exact ⟨G a b,(u a b).2⟩;exact ⟨⟨r.fresh b,by have:=r.blk.lt;omega⟩,by omega⟩;refine (y.trans (m.below U)).trans (s.to_below oM fun f D L=>?_);rcases L with b | b;omega;have:=(u f b).2;omega
def tV (c r:Nat) (y:List UInt8) (k:World) (bh:c<=127) (bq:1<=r) (br:r<=64) (bL:y.length<=100000) (b1:∀b∈bK y,oH b) (Z:TabD k):
 Calls prog 6 #[(c:Int),(r:Int),eJ y] k fun A bE=>A=.returned (eJ (rM rhoS (c:Int) y))/\Below k.heap.size k bE:=by
 have bi:=aFI c r k oM bq br;have a9:=Z.tab.pos;have aa:=Z.low.2;have ab:=Z.low.1;obtain ⟨f,af⟩:=eqx (bK y);have aZ:=aDn y;have F:=yX y;have b2:=fun w1 (bt:Below k.heap.size k w1)=>aFP y w1 oM (Z.below bt a9 aa ab).mx;have ay:rM rhoS (c:Int) y=if 300 < (if f.getLast (af ▸ F)= [] then f.dropLast else f).length then [101,114,114,111,114,10] else bW rhoS (c:Int) [] (if f.getLast (af ▸ F)= [] then f.dropLast else f):=by unfold rM yS;subst af;rfl
 rw [af] at aZ F b2 b1;obtain ⟨a4,Y⟩:=eqx f.length;have bF:0 < a4:=by rw [<-Y];exact List.length_pos_iff.2 F
 have aY:f[a4 - 1]?=some (f.getLast F):=by rw [<-Y];exact (List.getLast?_eq_getElem? ▸ List.getLast?_eq_some_getLast F)
 obtain ⟨b6,a0⟩:=eqx (f.getLast F);rw [a0] at ay aY;obtain ⟨bn,be⟩:=eqx (rM rhoS (c:Int) y);rw [be] at ay⊢;obtain ⟨ba,aJ,b7,bc,bb,b9⟩:=hqq6 bi b2 Z ay b1 aZ.2;have bG:a4<=100001:=by rw [<-Y];omega
 clear bi b2 Z ay b1 aZ F af be a0;rw [Y] at aJ;obtain ⟨i,rfl⟩:∃i,a4=i+1:=⟨a4 - 1,by omega⟩;rw [zBb] at aY;go_enter func6,ntmps6;go_wp2_with fail;refine ba.out.mono ?_;rintro A w1 ⟨p,aP,own,rfl,b3,aU⟩;obtain ⟨aK,aB⟩:=hqq2 b3 aU;have bw:=aU.size;have bJ:p < w1.heap.size:=b3.blk.lt;clear b3 aU ba;go_wp2_with fail;refine (aJ.out w1 aB.out).mono ?_;rintro A m ⟨rfl,rfl⟩;obtain ⟨o,bg⟩:=eqx w1.heap.size;obtain ⟨m,an⟩:=eqx (w1.alloc (.cells (f.map eJ).toArray 9));have b4:StAt m k.heap.size own p aP c r []:=by rw [<-an];exact aK.out.vb (Vis.of_below (bR.alloc nL _))
 have ax:Kp m own p o 9 (f.map eJ).toArray:=by rw [<-an,<-bg];exact Kp.new aK.out _ _
 have aV:Below k.heap.size k m:=by rw [<-an];exact aB.out.alloc bw _
 have bd:m.cell? ⟨o,i,none⟩=some (eJ b6):=(ax.1.cell i).trans (by simp [aY]);have bf:∀(wr:World) bk,Kp wr bk p o 9 (f.map eJ).toArray->∀a b,f[a]?=some b->wr.cell? ⟨o,a,none⟩=some (eJ b):=fun wr bk aw a b g=>(aw.1.cell a).trans (by simp [g]);have bj:=aV.size;have bH:o < m.heap.size:=ax.1.lt;have bI:p < m.heap.size:=b4.blk.lt;obtain ⟨X,W,V,b8⟩:=hqq4 b4 ax aV bf;clear b4 ax aV bf aB aK aJ;rw [an,bg];clear an;by_cases a0:b6= []
 · subst a0;have n:=bc.out;rw [zBx rfl] at n;obtain ⟨d,w⟩:=eqx f.dropLast;have C:d.length=i:=(by rw [<-w,List.length_dropLast,Y];rfl);have aQ:∀(a:Nat) (b:List UInt8),d[a]?=some b->f[a]?=some b:=fun a b g=>by
    have aw:a < d.length:=(zAc.1 g).1;rw [<-w,List.getElem?_dropLast] at g;split at g;exact g
    · cases g
   have ac:∀b∈d,b∈f:=fun b g=>by rw [<-w] at g;exact List.dropLast_subset _ g
   rw [w] at n;clear w;rcases zBe 300 (i) with H | H
   · rw [C,zBx H] at n;have b5:(300:Int) < (i:Int):=oM;go_wp2_with fail;go_ret;exact ⟨by rw [n];kernel_rfl,V.out⟩
   · rw [C,zBw oM] at n;have b5:¬((300:Int) < (i:Int)):=oM;have bv:i<=300:=H;obtain ⟨s,aW⟩:=eqx m.heap.size;obtain ⟨av,E⟩:=eqx (m.alloc (.cells #[.pointer none,.slice none 0 0] 36));have L:Below m.heap.size m av:=(by rw [<-E];exact bR.alloc nL _);have ad:RunI k av p s o c r 0 (f.map eJ).toArray (cR rhoS (c:Int) [] (d.take 0)) (bW rhoS (c:Int) [] (d.take 0)):=(by refine ⟨⟨own,aP,.slice none 0 0,X.out.vb (Vis.of_below L),by rw [<-E,<-aW];exact BldV.new m,⟨X.out.fresh oM,by omega⟩,(fun B x=>by cases x),?_⟩,V.out.trans (L.mono bj),by omega,zAp _⟩;exact ⟨by rw [<-E];exact Bk.alloc W.out.1 _,W.out.2⟩);have az:=lhd ad;clear ad L X W V;go_wp2_with fail;clear E bd;go_loopw [45] (fun T wr=>∃a:Nat,a<=i/\T=.int .i64 (a:Int)/\RunI k wr p s o c r a (f.map eJ).toArray (cR rhoS (c:Int) [] (d.take a)) (bW rhoS (c:Int) [] (d.take a))) (fun T _=>(i) -(intOf T).toNat)
     case atStart=>exact ⟨0,by omega,rfl,az.out⟩
     case round=>
        obtain ⟨a,aw,rfl,e⟩:=hrel;by_cases b0:a < i
        · obtain ⟨b,g⟩:∃b,d[a]?=some b:=⟨_,zAa (by rw [C];exact b0)⟩;have ap:=zAd g;obtain ⟨U,a7,aq,v,q,M,u,D⟩:=e.st;have bo:wr.cell? ⟨o,a,none⟩=some (eJ b):=b8.out wr U D a b (aQ a b g);have Q:d.take (a+1)=d.take a++ [b]:=(by rw [zAv,g];rfl);have l:=iM rhoS (c:Int) b (d.take a) [];have j:=gQ rhoS (c:Int) b (d.take a) [];rw [<-Q] at l j;have bA:(a:Int) < (i:Int):=oM;by_cases R:b= []
          · subst R;rw [zBx rfl] at l j;rw [List.append_nil] at j;have ae:RunI k wr p s o c r (a+1) (f.map eJ).toArray (cR rhoS (c:Int) [] (d.take (a+1))) (bW rhoS (c:Int) [] (d.take (a+1))):=(by rw [l,j];exact ⟨e.st,e.bl,e.lo,zAk e.len oM⟩);have aA:=lhd ae;clear ae e v q M u D l j Q g;go_wp2_with fail;go_roundw
            case rel=>exact ⟨a+1,by omega,by go_num,aA.out⟩
            case measure=>simp [intOf];omega
          · rw [zBw R] at l j;obtain ⟨z,ag⟩:=eqx (cR rhoS (c:Int) [] (d.take a));obtain ⟨a5,I⟩:=eqx (bW rhoS (c:Int) [] (d.take a));rw [ag] at l j v;rw [I] at j q;have bs:a5.length<=6001*a:=(by rw [<-I];exact e.len);obtain ⟨bD,_,_,_,am,_⟩:=v.tp;have S:=uL am;have aS:=v.n127;have aT:=aBN rhoS (c:Int) z b S aS;have bz:=b9.out b (ac b ap);have O:=aCw rhoS k.heap.size U p a7 c r z b wr S v (bb.out b (ac b ap)) oM bh (b7.out.below e.bl a9 aa ab) a9 aa ab;obtain ⟨bm,J⟩:=eqx ((iZ rhoS (c:Int) z b).1);obtain ⟨a6,K⟩:=eqx ((iZ rhoS (c:Int) z b).2);rw [J,K] at O;rw [K] at aT j;rw [J] at l;have bx:(b== [])=false:=(by rw [zCb];exact R);have t:=e.bl;have aR:=e.lo;obtain ⟨aF,a3,a1,a2,aD,G,aN,aH⟩:=hqq8 O q M u D t l j;clear O q M u D t l j e v am S ag I J K Q g;go_wp2_with fail;refine aF.out.mono ?_;rintro A ar ⟨bB,bp,rfl,ak,N⟩;have ai:=a3.out.step N a1.out fun B x=>(a2.out B x).1;have ao:=zH s a5 (a6++ [10]) aq ar ai (by rw [zAi,List.length_singleton];omega);have bu:=run_string_add_lists (P:=prog) ar a6 [10] oM dC;obtain ⟨aO,aL,aE⟩:=hqq3 ao ak N;clear ao ak N ai;go_wp2_with fail;refine aO.out.mono ?_;rintro A au ⟨⟨bC,rfl⟩,a8⟩;have aj:RunI k au p s o c r (a+1) (f.map eJ).toArray (cR rhoS (c:Int) [] (d.take (a+1))) (bW rhoS (c:Int) [] (d.take (a+1))):=(by rw [aN.out,aH.out];exact RunI.next a3.out a1.out a2.out aD.out G.out aR aL.out aE.out (by simpa [zCn] using a8) (by simp only [zAi,zCf,List.length_nil];omega));have aG:=lhd aj;clear aj a8;go_wp2_with fail;go_roundw
            case rel=>exact ⟨a+1,by omega,by go_num,aG.out⟩
            case measure=>simp [intOf];omega
        · have aX:a=i:=oM;rw [aX] at e⊢;rw [zAg (by rw [C];exact zAs _)] at e;obtain ⟨U,a7,aq,_,q,_,u,_⟩:=e.st;have t:=e.bl;have al:=oS k.heap.size s _ wr (q.bldB e.lo fun B x=>(u B x).2) t.size;obtain ⟨G,aM,aI⟩:=hqq3 t al n;clear t al e q u n;go_wp2_with fail;refine aM.out.mono ?_;rintro A au ⟨rfl,ah⟩;have aC:=lhd (G.out.trans ah);clear ah;go_wp2_with fail;go_ret;exact ⟨by rw [aI.out];kernel_rfl,aC.out⟩
 · have n:=bc.out;rw [zBw a0] at n;have bM:(b6== [])=false:=(by rw [zCb];exact a0);obtain ⟨d,w⟩:=eqx f;have C:d.length=i+1:=(by rw [<-w,Y]);have aQ:∀(a:Nat) (b:List UInt8),d[a]?=some b->f[a]?=some b:=fun a b g=>by rw [w];exact g
   have ac:∀b∈d,b∈f:=fun b g=>by rw [w];exact g
   have n:bn=if 300 < d.length then [101,114,114,111,114,10] else bW rhoS (c:Int) [] d:=(by rw [<-w];exact n);clear w;rcases zBe 300 (i+1) with H | H
   · rw [C,zBx H] at n;have b5:(300:Int) < (i:Int)+1:=oM;go_wp2_with fail;go_ret;exact ⟨by rw [n];kernel_rfl,V.out⟩
   · rw [C,zBw oM] at n;have b5:¬((300:Int) < (i:Int)+1):=oM;have bv:i+1<=300:=H;obtain ⟨s,aW⟩:=eqx m.heap.size;obtain ⟨av,E⟩:=eqx (m.alloc (.cells #[.pointer none,.slice none 0 0] 36));have L:Below m.heap.size m av:=(by rw [<-E];exact bR.alloc nL _);have ad:RunI k av p s o c r 0 (f.map eJ).toArray (cR rhoS (c:Int) [] (d.take 0)) (bW rhoS (c:Int) [] (d.take 0)):=(by refine ⟨⟨own,aP,.slice none 0 0,X.out.vb (Vis.of_below L),by rw [<-E,<-aW];exact BldV.new m,⟨X.out.fresh oM,by omega⟩,(fun B x=>by cases x),?_⟩,V.out.trans (L.mono bj),by omega,zAp _⟩;exact ⟨by rw [<-E];exact Bk.alloc W.out.1 _,W.out.2⟩);have az:=lhd ad;clear ad L X W V;go_wp2_with fail;clear E bd;go_loopw [45] (fun T wr=>∃a:Nat,a<=i+1/\T=.int .i64 (a:Int)/\RunI k wr p s o c r a (f.map eJ).toArray (cR rhoS (c:Int) [] (d.take a)) (bW rhoS (c:Int) [] (d.take a))) (fun T _=>(i+1) -(intOf T).toNat)
     case atStart=>exact ⟨0,by omega,rfl,az.out⟩
     case round=>
        obtain ⟨a,aw,rfl,e⟩:=hrel;by_cases b0:a < i+1
        · obtain ⟨b,g⟩:∃b,d[a]?=some b:=⟨_,zAa (by rw [C];exact b0)⟩;have ap:=zAd g;obtain ⟨U,a7,aq,v,q,M,u,D⟩:=e.st;have bo:wr.cell? ⟨o,a,none⟩=some (eJ b):=b8.out wr U D a b (aQ a b g);have Q:d.take (a+1)=d.take a++ [b]:=(by rw [zAv,g];rfl);have l:=iM rhoS (c:Int) b (d.take a) [];have j:=gQ rhoS (c:Int) b (d.take a) [];rw [<-Q] at l j;have bA:(a:Int) < (i:Int)+1:=oM;by_cases R:b= []
          · subst R;rw [zBx rfl] at l j;rw [List.append_nil] at j;have ae:RunI k wr p s o c r (a+1) (f.map eJ).toArray (cR rhoS (c:Int) [] (d.take (a+1))) (bW rhoS (c:Int) [] (d.take (a+1))):=(by rw [l,j];exact ⟨e.st,e.bl,e.lo,zAk e.len oM⟩);have aA:=lhd ae;clear ae e v q M u D l j Q g;go_wp2_with fail;go_roundw
            case rel=>exact ⟨a+1,by omega,by go_num,aA.out⟩
            case measure=>simp [intOf];omega
          · rw [zBw R] at l j;obtain ⟨z,ag⟩:=eqx (cR rhoS (c:Int) [] (d.take a));obtain ⟨a5,I⟩:=eqx (bW rhoS (c:Int) [] (d.take a));rw [ag] at l j v;rw [I] at j q;have bs:a5.length<=6001*a:=(by rw [<-I];exact e.len);obtain ⟨bD,_,_,_,am,_⟩:=v.tp;have S:=uL am;have aS:=v.n127;have aT:=aBN rhoS (c:Int) z b S aS;have bz:=b9.out b (ac b ap);have O:=aCw rhoS k.heap.size U p a7 c r z b wr S v (bb.out b (ac b ap)) oM bh (b7.out.below e.bl a9 aa ab) a9 aa ab;obtain ⟨bm,J⟩:=eqx ((iZ rhoS (c:Int) z b).1);obtain ⟨a6,K⟩:=eqx ((iZ rhoS (c:Int) z b).2);rw [J,K] at O;rw [K] at aT j;rw [J] at l;have bx:(b== [])=false:=(by rw [zCb];exact R);have t:=e.bl;have aR:=e.lo;obtain ⟨aF,a3,a1,a2,aD,G,aN,aH⟩:=hqq8 O q M u D t l j;clear O q M u D t l j e v am S ag I J K Q g;go_wp2_with fail;refine aF.out.mono ?_;rintro A ar ⟨bB,bp,rfl,ak,N⟩;have ai:=a3.out.step N a1.out fun B x=>(a2.out B x).1;have ao:=zH s a5 (a6++ [10]) aq ar ai (by rw [zAi,List.length_singleton];omega);have bu:=run_string_add_lists (P:=prog) ar a6 [10] oM dC;obtain ⟨aO,aL,aE⟩:=hqq3 ao ak N;clear ao ak N ai;go_wp2_with fail;refine aO.out.mono ?_;rintro A au ⟨⟨bC,rfl⟩,a8⟩;have aj:RunI k au p s o c r (a+1) (f.map eJ).toArray (cR rhoS (c:Int) [] (d.take (a+1))) (bW rhoS (c:Int) [] (d.take (a+1))):=(by rw [aN.out,aH.out];exact RunI.next a3.out a1.out a2.out aD.out G.out aR aL.out aE.out (by simpa [zCn] using a8) (by simp only [zAi,zCf,List.length_nil];omega));have aG:=lhd aj;clear aj a8;go_wp2_with fail;go_roundw
            case rel=>exact ⟨a+1,by omega,by go_num,aG.out⟩
            case measure=>simp [intOf];omega
        · have aX:a=i+1:=oM;rw [aX] at e⊢;rw [zAg (by rw [C];exact zAs _)] at e;obtain ⟨U,a7,aq,_,q,_,u,_⟩:=e.st;have t:=e.bl;have al:=oS k.heap.size s _ wr (q.bldB e.lo fun B x=>(u B x).2) t.size;obtain ⟨G,aM,aI⟩:=hqq3 t al n;clear t al e q u n;go_wp2_with fail;refine aM.out.mono ?_;rintro A au ⟨rfl,ah⟩;have aC:=lhd (G.out.trans ah);clear ah;go_wp2_with fail;go_ret;exact ⟨by rw [aI.out];kernel_rfl,aC.out⟩
def rJ:List UInt8:= [108,101,110,10,105,110,115,101,114,116,32,48,32,97,98,97,98,10,99,111,117,110,116,32,97,98,10,108,111,99,97,116,101,32,97,98,10,116,97,107,101,32,49,32,50,10,116,97,107,101,32,48,32,48,10,108,111,99,97,116,101,32,122,10,120,10,114,101,108,111,97,100,10,108,97,115,116]
def aHT:List UInt8:= [48,10,48,10,50,10,48,32,50,10,48,32,54,50,54,49,10,48,32,110,111,110,101,10,110,111,110,101,10,101,114,114,111,114,10,48,10]
def aCO:bK rJ= [[108,101,110], [105,110,115,101,114,116,32,48,32,97,98,97,98], [99,111,117,110,116,32,97,98], [108,111,99,97,116,101,32,97,98], [116,97,107,101,32,49,32,50], [116,97,107,101,32,48,32,48], [108,111,99,97,116,101,32,122], [120], [114,101,108,111,97,100], [108,97,115,116]]:=dC
def aGa (ρ:List UInt8->List Nat):rM ρ 9 rJ=aHT++(cU (lZ (aF (aI [97,98,97,98]) (ρ [97,98,97,98])))++ [10]++ []):=by
 kernel_rfl
def aCa:IsSuf (aI [97,98,97,98]) [4,2,0,3,1]:=by
 refine ⟨by decide,?_⟩;have g:aI [97,98,97,98]= [98,99,98,99,0]:=dC;rw [g];have a:∀c d f,(∃b,b < f/\(∀e,e < b->aN [98,99,98,99,0] (c+e)=aN [98,99,98,99,0] (d+e))/\aN [98,99,98,99,0] (c+b) < aN [98,99,98,99,0] (d+b))->sufLt [98,99,98,99,0] c d:=fun c d f i=>⟨f,i⟩;simp only [List.pairwise_cons,List.mem_cons,List.not_mem_nil,or_false,forall_eq_or_imp,forall_eq,false_implies,implies_true,and_true,List.Pairwise.nil];refine ⟨⟨a _ _ 5 dC,a _ _ 5 dC,a _ _ 5 dC,a _ _ 5 dC⟩,⟨a _ _ 5 dC,a _ _ 5 dC,a _ _ 5 dC⟩,⟨a _ _ 5 dC,a _ _ 5 dC⟩,a _ _ 5 dC⟩
def aF9:rM rhoS 9 rJ= [48,10,48,10,50,10,48,32,50,10,48,32,54,50,54,49,10,48,32,110,111,110,101,10,110,111,110,101,10,101,114,114,111,114,10,48,10,57,57,32,57,57,32,48,32,57,56,32,57,56,10]:=by
 rw [aGa,IsSuf.unique (uL aCa) aCa];kernel_rfl
def aCP (ρ:List UInt8->List Nat):rM ρ 9 []= []:=by kernel_rfl
def aDV (f:Nat) (p:List UInt8) (a:World) (r:f<=127) (b:TabD a):
 Calls prog 6 #[(f:Int),.int .i64 0,eJ p] a fun c q=>c=.returned (eJ [101,114,114,111,114,32,49,10])/\Below a.heap.size a q:=by
 have k:=xN f 0 a oM (.inl dC);have d:Below a.heap.size a (a.alloc (.cells #[.int .i64 1] 3)):=bR.alloc nL _;have e:=dZ (some ⟨a.heap.size,0,none⟩) 1 1 [1] _ (lC a 1) oM (fun t l=>by simp at l;subst l;exact ⟨by omega,by omega⟩) (b.below d b.tab.pos b.low.2 b.low.1);have i:cU [1]= [49]:=by kernel_rfl
 rw [i] at e;obtain ⟨n,o,g⟩:=hqq3 k e d;clear k e d b i;go_enter func6,ntmps6;go_wp2_with fail;refine n.out.mono ?_;rintro c w1 ⟨rfl,rfl⟩;go_wp2_with fail;refine o.out.mono ?_;rintro c s ⟨rfl,j⟩;have m:=lhd (g.out.trans (j.mono g.out.size));clear j;go_wp2_with fail;go_ret;exact ⟨by kernel_rfl,m.out⟩
def aEH:∀b∈bK rJ,oH b:=by
 rw [aCO];intro b a;simp only [List.mem_cons,List.not_mem_nil,or_false] at a;rcases a with rfl | rfl | rfl | rfl | rfl | rfl | rfl | rfl | rfl | rfl <;> exact ⟨by decide,by decide,by decide⟩
def wI (a:World) (b:TabD a):Calls prog 5 #[] a fun c x=>c=.returned (.bool true)/\Below a.heap.size a x:=by
 have m:=b.tab.pos;have n:=b.low.2;have o:=b.low.1;have f:=tV 9 2 rJ a oM oM oM dC aEH b;have j:rM rhoS ((9:Nat):Int) rJ= [48,10,48,10,50,10,48,32,50,10,48,32,54,50,54,49,10,48,32,110,111,110,101,10,110,111,110,101,10,101,114,114,111,114,10,48,10,57,57,32,57,57,32,48,32,57,56,32,57,56,10]:=aF9;rw [j] at f;have l:=fun w1 (i:Below a.heap.size a w1)=>aDV 9 [108,101,110] w1 oM (b.below i m n o);have g:=fun w1 (i:Below a.heap.size a w1)=>tV 9 2 [] w1 oM oM oM dC (fun A s=>by simp [bK] at s;subst s;exact ⟨by decide,by decide,by decide⟩) (b.below i m n o);have k:rM rhoS ((9:Nat):Int) []= []:=aCP rhoS;rw [k] at g;obtain ⟨t,u,v⟩:=hqq3 f l g;clear f l g j k b;go_enter func5,ntmps5;go_wp2_with fail;refine t.out.mono ?_;rintro c w1 ⟨rfl,p⟩;have d:=lhd p;clear p;go_wp2_with fail;refine (u.out w1 d.out).mono ?_;rintro c y ⟨rfl,q⟩;have e:=lhd (d.out.trans (q.mono d.out.size));clear q;go_wp2_with fail;refine (v.out y e.out).mono ?_;rintro c z ⟨rfl,r⟩;have w:=lhd (e.out.trans (r.mono e.out.size));clear r;go_wp2_with fail;go_ret;exact ⟨by kernel_rfl,w.out⟩
end
end Go.Proofs.YtcfpmjbojoidoaaGreatDoor
