/- Lemmas of the walk. Conditions: each its own. -/
import Derived.Test.YthldmddkfbijhaaGreatDoorPst12
import Derived.Test.YthldmddkfbijhaaGreatDoorPst15
import Derived.Test.YthldmddkfbijhaaGreatDoorProg
import Derived.Test.YthldmddkfbijhaaGreatDoorShl
import Derived.Test.YthldmddkfbijhaaGreatDoorShi
set_option linter.all false
set_option maxRecDepth 100000
set_option maxHeartbeats 2000000
open Go.Proofs.Tryz
namespace Go.Proofs.YthldmddkfbijhaaGreatDoor
section
open Go.RowKit
theorem aBL (t c n u v w g d a:Nat) (e:List (Nat×Nat)) (k:World) (q:k.ownsRow t 170 2 (.slice (some ⟨c,0,none⟩) n u) n (bU e)) (y:a < e.length) (z:Bk k v 3 #[(g:Int)]) (A:Bk k w 3 #[(d:Int)]) (G:aB e a<=1000000000000):
 Calls prog 173 #[.pointer (some ⟨c,a*2,none⟩),v,w] k fun E T=>E=.returned (.tuple #[])/\T.ownsRow t 170 2 (.slice (some ⟨c,0,none⟩) n u) n (bU (e.set a (mvR g d (aB e a),aI e a)))/\Keep (fun i=>i=c) k T:=by
 obtain ⟨S,Z⟩:=cG e a y;have Y:e.length=n:=by have x:=q.1;rw [dB] at x;omega
 have W:=(World.ownsRow.cellAt q (a*2) oM).trans S;have aa:k.cell? ⟨v,0,none⟩=some (.int .i64 (g:Int)):=(z.cell 0).trans rfl;have ab:k.cell? ⟨w,0,none⟩=some (.int .i64 (d:Int)):=(A.cell 0).trans rfl;obtain ⟨a2,r⟩:=fI q;have a4:=r.frozen (a*2);have a5:=r.lt;have a6:=z.lt;have a7:=A.lt;have a8:v≠c:=Bk.ne z r dC;have a9:w≠c:=Bk.ne A r dC;have J:=lD e a y;have P:=fun f=>kK e a f y;obtain ⟨b,I⟩:=eqx (aB e a);rw [I] at W J G;rw [I];obtain ⟨B,U,M⟩:=hqq3 q J P;have Q:∀f:Nat,(k.setCell ⟨c,a*2,none⟩ (.int .i64 (f:Int))).ownsRow t 170 2 (.slice (some ⟨c,0,none⟩) n u) n (bU (e.set a (f,aI e a))):=fun f=>by have:=(World.ownsRow.stored B.out (a*2) (.int .i64 (f:Int))).1;rwa [M.out] at this
 have R:∀L f:Nat,((k.setCell ⟨c,a*2,none⟩ (.int .i64 (L:Int))).setCell ⟨c,a*2,none⟩ (.int .i64 (f:Int))).ownsRow t 170 2 (.slice (some ⟨c,0,none⟩) n u) n (bU (e.set a (f,aI e a))):=fun L f=>by have x:=(World.ownsRow.stored (World.ownsRow.stored B.out (a*2) (.int .i64 (L:Int))).1 (a*2) (.int .i64 (f:Int))).1;rw [List.set_set,M.out] at x;exact x
 have O:∀f:Value,Keep (fun i=>i=c) k (k.setCell ⟨c,a*2,none⟩ f):=fun f=>Keep.setCell (F:=fun i=>i=c) (Keep.refl _ _) (p:=⟨c,a*2,none⟩) (.inl rfl) _;obtain ⟨C,V,a0⟩:=hqq3 Q R O;clear q y z A S Z r J P Y I Q R O;have s:∀f:Nat,mvR g d b=f->e.set a (mvR g d b,aI e a)=e.set a (f,aI e a):=fun f E=>by rw [E]
 by_cases N:b=g
 · subst N;have l:mvR b d b=d:=(by unfold mvR;rw [zBx rfl]);rw [l];clear s;go_enter func173,ntmps173;go_wp2_with fail;go_quiet (fail);go_wp2_with fail;refine bodyPost_ret (results_none rfl _ _ _) rfl ?_;exact ⟨rfl,rI (C.out d) rfl,(Keep.setCell (F:=fun i=>i=c) ((Keep.refl _ _).drewN _) (p:=⟨c,a*2,none⟩) (.inl rfl) _)⟩
 · have a1:((b:Int)==(g:Int))=false:=(by rw [zCb];omega);have m:mvR g d b=inR (aW b g) d:=(by unfold mvR;rw [zBw N]);by_cases D:g < b
   · obtain ⟨j,H⟩:∃j,b=j+1:=⟨b - 1,by omega⟩;have b1:decide ((b:Int) > (g:Int))=true:=zBz oM;have a3:IntKind.i64.wrap ((b:Int) - 1)=(j:Int):=(by rw [IntKind.wrap_i64];omega);have K:aW b g=j:=(by unfold aW;rw [zBx D];omega);rw [K] at m;by_cases o:d<=j
     · have b2:decide ((j:Int)>=(d:Int))=true:=zBz oM;have X:wrap64 ((j:Int)+1)=(b:Int):=(by rw [dK oM oM];omega);have l:mvR g d b=b:=(by rw [m];unfold inR;rw [zBx o];exact H.symm);rw [l];clear s m K G H;go_enter func173,ntmps173;go_wp2_with fail;go_quiet (fail);go_wp2_with fail;go_quiet (fail);go_wp2_with fail;go_quiet (fail);go_wp2_with fail;go_end0;exact ⟨rfl,rI (V.out j b) rfl,(Keep.setCell (F:=fun i=>i=c) (Keep.drewN (Keep.setCell (F:=fun i=>i=c) ((Keep.refl _ _).drewN _) (p:=⟨c,a*2,none⟩) (.inl rfl) _) _) (p:=⟨c,a*2,none⟩) (.inl rfl) _)⟩
     · have b2:decide ((j:Int)>=(d:Int))=false:=zBy oM;have l:mvR g d b=j:=(by rw [m];unfold inR;rw [zBw o]);rw [l];clear s m K G H;go_enter func173,ntmps173;go_wp2_with fail;go_quiet (fail);go_wp2_with fail;go_quiet (fail);go_wp2_with fail;go_quiet (fail);go_wp2_with fail;go_end0;exact ⟨rfl,rI (C.out j) rfl,Keep.drewN (Keep.setCell (F:=fun i=>i=c) ((Keep.refl _ _).drewN _) (p:=⟨c,a*2,none⟩) (.inl rfl) _) _⟩
   · have b1:decide ((b:Int) > (g:Int))=false:=zBy oM;by_cases o:d<=b
     · have b2:decide ((b:Int)>=(d:Int))=true:=zBz oM;have X:wrap64 ((b:Int)+1)=((b+1:Nat):Int):=(by rw [dK oM oM];omega);have l:mvR g d b=b+1:=(by rw [m];unfold aW;rw [zBw D];unfold inR;rw [zBx o]);rw [l];clear s m;go_enter func173,ntmps173;go_wp2_with fail;go_quiet (fail);go_wp2_with fail;go_quiet (fail);go_wp2_with fail;go_quiet (fail);go_wp2_with fail;go_end0;exact ⟨rfl,rI (C.out (b+1)) rfl,(Keep.setCell (F:=fun i=>i=c) ((Keep.refl _ _).drewN _) (p:=⟨c,a*2,none⟩) (.inl rfl) _)⟩
     · have b2:decide ((b:Int)>=(d:Int))=false:=zBy oM;have l:mvR g d b=b:=(by rw [m];unfold aW;rw [zBw D];unfold inR;rw [zBw o]);rw [l,U.out];clear s m;go_enter func173,ntmps173;go_wp2_with fail;go_quiet (fail);go_wp2_with fail;go_quiet (fail);go_wp2_with fail;go_quiet (fail);go_wp2_with fail;go_end0;exact ⟨rfl,B.out,(((Keep.refl _ _).drewN _).drewN _).drewN _⟩
theorem uR (u r A Q R p q:Nat) (l K L J:Value) (x w:Nat) (d:List Nat) (f:List (Nat×Nat)) (I:List Bool) (z:List Nat) (o:World) (B:PermAt o u r A l K L J x w d f I z) (F:d.Nodup) (aP:d.length<=1000000) (aS:Bk o Q 3 #[(p:Int)]) (aN:∀c,l.ownBlock=some c->c≠Q) (aT:Bk o R 3 #[(q:Int)]) (aO:∀c,l.ownBlock=some c->c≠R) (ag:∀a,a∈d->aB f a<=1000000000000/\aI f a<=1000000000000):
 Calls prog 118 #[r,.func (.func 173) #[] #[Q,R]] o fun j an=>j=.returned (.tuple #[])/\Keep (fun c=>l.ownBlock=some c) o an/\∃M,M.length=f.length/\(∀a,a∈d->(aB M a,aI M a)=(mvR p q (aB f a),aI f a))/\PermAt an u r A l K L J x w d M I z:=by
 obtain ⟨ao,aD,a7,_,_⟩:=aR B.orow;have aE:o.cell? ⟨r,2,none⟩=some (.slice ao d.length aD):=(B.blk.cell 2).trans (by rw [a7];rfl);have b1:=B.blk.lt;obtain ⟨H,a6⟩:=eqx d.length;rw [a6] at aE aP;obtain ⟨ap,Z,aC,ay,aq⟩:=hqq5 B a6 a7 F ag;clear B a6 a7 F ag;go_enter func118,ntmps118;go_wp2_with fail;go_loopw [11] (fun a8 wr=>∃(g:Nat) (b:List (Nat×Nat)),g<=H/\a8=.int .i64 (g:Int)/\b.length=f.length/\(∀a,a∈d.take g->(aB b a,aI b a)=(mvR p q (aB f a),aI f a))/\(∀a,a∈d.drop g->(aB b a,aI b a)=(aB f a,aI f a))/\PermAt wr u r A l K L J x w d b I z/\Keep (fun c=>l.ownBlock=some c) o wr) (fun a8 _=>H -(intOf a8).toNat)
 case atStart=>exact ⟨0,f,zAp _,rfl,rfl,fun a m=>by simp at m,fun a _=>rfl,ap.out,Keep.refl _ _⟩
 case round=>
  obtain ⟨g,b,b3,rfl,a5,T,U,e,m⟩:=hrel;by_cases al:g < H
  · have C:g < d.length:=(by rw [Z.out];exact al);obtain ⟨a,D⟩:∃a,d[g]?=some a:=⟨_,zAa C⟩;have a4:=zAd D;have a3:a < b.length:=e.lt a a4;have V:=e.orow;rw [aC.out] at V;obtain ⟨aH,b6,aG,_,b0⟩:=World.ownsRow.form V oM;injection aG with e2a _ e2c;subst e2a e2c;have E:=e.lrow;obtain ⟨P,am,O,_,aZ⟩:=World.ownsRow.form E oM;rw [O] at E;have aF:wr.cell? ⟨aH,g,none⟩=some (.int .i64 (a:Int)):=(World.ownsRow.cellAt V g oM).trans (by rw [zAf,D];rfl);have af:wr.cell? ⟨r,1,none⟩=some (.slice (some ⟨P,0,none⟩) b.length am):=(e.blk.cell 1).trans (by rw [O];rfl);have b2:=e.blk.lt;have b5:=m.size;have aj:a∈d.drop g:=(by rw [zAx C,List.getElem_eq_getElem?_get];simp [D]);have aJ:(aB b a,aI b a)=(aB f a,aI f a):=U a aj;injection aJ with hCr hCp;have aV:=fun (c:Nat) (j:Value.ownBlock l=some c)=>(World.ownsRow.lt e.lrow c j).2;obtain ⟨ae,a1⟩:=eqx b.length;rw [a1] at E af a3;have aW:=m.bk aS (fun j=>aN _ j rfl);have aX:=m.bk aT (fun j=>aO _ j rfl);have b4:(a:Int) < (ae:Int):=oM;obtain ⟨a0,Y,ad,ac,X,av,N,ax,ab⟩:=hqq9 e m E D T U a1 a5 O;obtain ⟨aa,au,aw⟩:=hqq3 hCr hCp a4;clear e m E D T U a1 a5 O hCr hCp a4 aj V aV;go_wp2_with fail;refine (aBL u P ae am Q R p q a b wr ad.out (by rw [N.out];exact a3) aW aX (by rw [aa.out];exact (aq.out a aw.out).1)).mono ?_;rintro j w1 ⟨rfl,ak,t⟩
    have ah:PermAt w1 u r A l K L J x w d (b.set a (mvR p q (aB b a),aI b a)) I z:=by
        have e:=a0.out;have G:∀c a9 y,a9≠170->Bk wr c a9 y->c≠P:=fun c a9 y aQ n j=>by subst j;obtain ⟨aY,aK⟩:=fI ad.out;exact aQ (aM n aK).1
        refine ⟨t.bk e.blk (G _ _ _ dC e.blk),?_,aA e.orow fun c y _ n=>t.bk n (G _ _ _ dC n),t.bk e.ar (G _ _ _ dC e.ar),aA e.trow fun c y _ n=>t.bk n (G _ _ _ dC n),aA e.frow fun c y _ n=>t.bk n (G _ _ _ dC n),e.apart,fun i k=>by rw [zAt];exact e.lt i k,e.lo⟩;rw [zAt,N.out,ab.out,N.out];exact ak
    have ai:Keep (fun c=>l.ownBlock=some c) o w1:=Y.out.trans (t.mono fun c _ j=>by rw [ab.out,show c=P from j];rfl)
    have a2:∀i,(aB (b.set a (mvR p q (aB b a),aI b a)) i,aI (b.set a (mvR p q (aB b a),aI b a)) i)=if i=a then (mvR p q (aB b a),aI b a) else (aB b i,aI b i):=fun i=>by
        unfold aB aI;rw [zAb,zBm];by_cases s:a=i;subst s;rw [zBx rfl,zBx rfl,zBx (by rw [N.out];exact a3)];rfl
        · rw [zBw s,zBw (fun j=>s j.symm),zAb]
    have hrel:∃(W:Nat) (v:List (Nat×Nat)),W<=H/\Value.int .i64 ((g+1:Nat):Int)=.int .i64 (W:Int)/\v.length=f.length/\(∀a,a∈d.take W->(aB v a,aI v a)=(mvR p q (aB f a),aI f a))/\(∀a,a∈d.drop W->(aB v a,aI v a)=(aB f a,aI f a))/\PermAt w1 u r A l K L J x w d v I z/\Keep (fun c=>l.ownBlock=some c) o w1:=by
        refine ⟨g+1,_,by omega,rfl,by rw [zAt];exact ax.out,fun i k=>?_,fun i k=>?_,ah,ai⟩
        · rw [a2];by_cases s:i=a
          · subst s;rw [zBx rfl,aa.out,au.out]
          rw [zBw s];refine X.out i ?_;rw [zAv,ac.out] at k;simp at k;rcases k with k | k;exact k;exact absurd k s
        · rw [a2];have aU:i≠a:=fun j=>by subst j;have aL:d.drop g=i::d.drop (g+1):=(by have C:g < d.length:=(by rw [Z.out];exact al);rw [zAx C];have S:=ac.out;rw [zAa C] at S;injection S with S;rw [S]);have F:=(List.drop_sublist g d).nodup ay.out;rw [aL,List.nodup_cons] at F;exact F.1 k
          rw [zBw aU];exact av.out i (List.mem_of_mem_drop (by rw [<-List.drop_drop] at k;exact k:i∈(d.drop g).drop 1))
    have az:=lhd hrel;clear ah ai a2 hrel t ak af aF;go_wp2_with fail;go_roundw
    case rel=>exact az.out
    case measure=>simp [intOf];omega
  · obtain rfl:g=H:=oM;obtain ⟨a0,Y,X⟩:=hqq3 e m T;clear e m T U;go_wp2_with fail;go_end0;refine ⟨rfl,Y.out,b,a5,fun a m=>X.out a ?_,a0.out⟩;rw [zAg (by rw [Z.out];exact zAs _)];exact m
end
section
open Go.RowKit Go.Shelf
open Go.Sort (Holds)
theorem zY (n t:Nat) (r:Option Addr) (D s:Nat) (a:List (Nat×Nat)) (f g:Nat) (b:World) (e:PRd b n t r D s a) (y:f < a.length) (z:g < a.length):
 Calls prog 174 #[(f:Int),(g:Int),n] b fun i k=>i=.returned (.int .i64 (Lib.compareInt ((aB a f:Nat):Int) ((aB a g:Nat):Int)))/\∃c,k=b.drewN c:=by
 obtain ⟨J,G,L,rfl,u,v⟩:=e.at y;obtain ⟨K,b1,M,d,w,x⟩:=e.at z;injection d with d;injection d with d e2;subst d e2;have H:=e.box;have I:=e.sl;obtain ⟨l,p⟩:=eqx (aB a f);obtain ⟨m,q⟩:=eqx (aB a g);rw [p] at u⊢;rw [q] at w⊢;obtain ⟨F,j⟩:=eqx (Lib.compareInt (l:Int) (m:Int));have C:∀c:Nat,Calls prog 175 #[(l:Int),(m:Int)] (b.drewN c) fun i k=>i=.returned (.int .i64 F)/\∃E,k=b.drewN E:=fun c=>by have o:=AnyG.cmp_Compare_int shCmp (l:Int) (m:Int) (b.drewN c);rw [j] at o;exact Calls.mono o fun _ _ ⟨A,B⟩=>⟨A,c,B⟩
 rw [j];clear e v x p q j;go_enter func174,ntmps174;go_wp2_with fail;go_quiet ((with_reducible exact C _));go_wp2_with fail;go_ret;exact ⟨rfl,_,rfl⟩
theorem aJI {b g f d:Nat} (a:mvR b g f=mvR b g d):f=d:=by
 unfold mvR inR aW at a;by_cases e:f=b
 · by_cases c:d=b;omega
   · rw [zBx e,zBw c] at a;split at a <;> split at a <;> omega
 · by_cases c:d=b
   · rw [zBw e,zBx c] at a;split at a <;> split at a <;> omega
   · rw [zBw e,zBw c] at a;split at a <;> split at a <;> split at a <;> split at a <;> omega
theorem aKA {b d c a:Nat} (f:b < a) (e:d < a) (g:c < a):mvR b d c < a:=by
 unfold mvR inR aW;split;exact e
 · split <;> split <;> omega
theorem PermX.drewN {p:World} {b:Nat->Prop} {g f:Nat} {m n o l:Value} {d c:Nat} {j:List Nat} {a:List (Nat×Nat)} {k:List Bool} {e:List Nat} (i:PermX p b g f m n o l d c j a k e) (q:Nat):PermX (p.drewN q) b g f m n o l d c j a k e:=
 { i with at_:=i.at_.below (below_drewN bR _)}
theorem PermX.sorted {p q:World} {t:Nat->Prop} {y x:Nat} {B g C A:Value} {v u:Nat} {m n:List Nat} {s:List (Nat×Nat)} {z:List Bool} {w:List Nat} (i:PermX p t y x B g C A v u m s z w) (k:n.Perm m) (f:Keep (fun c=>g.ownBlock=some c) p q) (F:q.ownsRow 0 3 1 g m.length (n.map sv)):PermX q t y x B g C A v u n s z w:=by
 have a:=i.at_;have j:∀c o d,Bk p c o d->o≠3->¬(g.ownBlock=some c):=fun c o d b G e=>by obtain ⟨I,D⟩:=eT a.orow e;exact G (aM b D).1
 refine { i with at_:=⟨f.bk a.blk (j _ _ _ a.blk dC),aA a.lrow fun c d _ b=>f.bk b (j _ _ _ b dC),by rw [k.length_eq];exact F,f.bk a.ar (j _ _ _ a.ar dC),aA a.trow fun c d _ b=>f.bk b (j _ _ _ b dC),aA a.frow fun c d b E=>f.bk E fun e=>?_,a.apart,fun r H=>a.lt r (k.subset H),a.lo⟩,nd:=k.nodup_iff.2 i.nd,tkk:=fun r=>(i.tkk r).trans k.mem_iff.symm };rcases a.apart with l | l
 · rw [l] at e;cases e
 exact l (e.trans b.symm)
theorem aBW (y:Nat->Prop) (t V q R Q:Nat) (a5 N a6 a4:Value) (b:List Nat) (e:List (Nat×Nat)) (a3:List Bool) (U:List Nat) (d:World) (r:PermX d y t V a5 N a6 a4 R Q b e a3 U) (E:Bk d q 90 #[t]) (aj:b≠ []) (af:∀v∈b,∀x∈b,aB e v=aB e x->v=x):
 ∃O p,N=.slice O b.length p/\Calls prog 147 #[.slice O b.length p,.func (.func 174) #[] #[q]] d fun m z=>m=.returned (.tuple #[])/\∃K,K.Perm b/\K.Pairwise (fun g i=>aB e g < aB e i)/\PermX z y t V a5 N a6 a4 R Q K e a3 U/\Keep y d z:=by
 have J:0 < b.length:=List.length_pos_iff.2 aj;have g:=r.at_;obtain ⟨l,p,m,_,I⟩:=World.ownsRow.form g.orow J;refine ⟨_,p,m,?_⟩;have Y:=g.orow;rw [m] at Y;obtain ⟨ar,H,ac,ai,ah,av,aa⟩:=tF Y J;obtain ⟨k0,ag⟩:∃j,j∈b:=List.exists_mem_of_length_pos J;obtain ⟨a,G⟩:∃a,e.length=a+1:=⟨e.length - 1,by have:=g.lt k0 ag;omega⟩;have X:∀j∈b,j < a+1:=fun j n=>by rw [<-G];exact g.lt j n
 have u:(fM a b).size=b.length:=by simp [fM]
 have a8:=qB (c:=a) H X (gE (by simp) oM aa);obtain ⟨P,a2,S,D,ax⟩:=g.prd (E.cell 0) (Below.refl d.heap.size d);have ab:CmpReads prog 174 #[q] (eW a) (cfK a (aB e)) l 0 (fM a b).size d:=fun L o C aw v x=>by
  have j:=jK (enc:=eW a) (w:=d) I 0 L C o;have F:∀i M A,Bk d i M A->M≠3->¬(i=l):=fun i M A a9 ao s=>by subst s;exact ao (aM a9 H).1
  have al:PRd (sortWorld (eW a) d l 0 L C o) q t P a2 S e:=by refine ⟨((j.bk E (F _ _ _ E dC)).cell 0).trans rfl,((j.bk g.blk (F _ _ _ g.blk dC)).cell 1).trans (by rw [D];rfl),?_⟩;have W:=aA (w':=sortWorld (eW a) d l 0 L C o) g.lrow fun i A _ n=>j.bk n (F _ _ _ n dC);rw [D] at W;have a7:=aR g.lrow;obtain ⟨ap,aq,T,_⟩:=a7;rw [D] at T;injection T with e81 e82 e83;subst e82;exact Rd.of_own W
  exact zY q t P a2 S e v.val x.val _ al (by rw [G];exact v.isLt) (by rw [G];exact x.isLt)
 have a1:=Any.slices_SortFunc shSort (eW a) (mA a) (cfK a (aB e)) (aJm a (aB e)) 174 #[q] l 0 p (fM a b) d (enters_of func174 kR rfl) ab.lays a8 I (by rw [u];have:=gQ r.nd g.lt;have:=r.sz;omega);rw [u] at a1;refine a1.mono ?_;rintro au z ⟨rfl,B,nq,o,a0,an,rfl⟩;obtain ⟨Z,am⟩:=aCm (f:=aB e) X (by rw [u];exact a0) (by rw [u];exact an) r.nd af;have ad:B.size=b.length:=by rw [a0.1,u]
 have n:=jK (enc:=eW a) (w:=d) I 0 nq B o;have ak:=aHD (base:=0) (k:=nq) (os:=o) B ad H (zAp _) ai ah ac;have ae:y l:=r.fo l (by rw [m];rfl);exact ⟨rfl,_,Z,am,r.sorted Z (n.mono fun i _ s=>by rw [m,show i=l from s];rfl) (by rw [m];exact ak),n.mono fun i _ s=>by rw [show i=l from s];exact ae⟩
theorem cJ (n:Nat->Prop) (c d o g i:Nat) (Y:List (Nat×Nat)) (a:World) (aE:PermE a n c d o Y) (aJ:g < d) (aK:i < d) (aV:d<=100000) (aU:o<=100000) (ai:Y≠ []):
 Calls prog 122 #[c,(g:Int),(i:Int)] a fun l an=>l=.returned (.int .i64 0)/\(∃D,D.Perm (Y.map fun k=>(mvR g i k.1,k.2))/\PermE an n c d o D)/\Keep n a an:=by
 obtain ⟨⟨A,w,G,H,F,f,e,E,z,r,rfl⟩,al,a8⟩:=aE;have K:=r.at_;have ah:f≠ []:=fun l=>ai (by rw [l];rfl);have aW:=K.blk.lt;have b0:decide ((g:Int) < 0)=false:=by simp
 have b1:decide ((i:Int) < 0)=false:=by simp
 have b2:¬d<=g:=oM;have b3:¬d<=i:=oM;have b4:¬(g:Int)>=(d:Int):=oM;have b5:¬(i:Int)>=(d:Int):=oM;obtain ⟨w1,v⟩:=eqx (((a.alloc (.cells #[c] 90)).alloc (.cells #[(g:Int)] 3)).alloc (.cells #[(i:Int)] 3));have R:Below a.heap.size a w1:=by rw [<-v];exact ((bR.alloc nL _).alloc (by simp) _).alloc (by simp;omega) _
 have M:Bk w1 a.heap.size 90 #[c]:=by rw [<-v];exact ((Bk.new a _ _).alloc _).alloc _
 have N:Bk w1 (a.heap.size+1) 3 #[(g:Int)]:=by rw [<-v];have:=(Bk.new (a.alloc (.cells #[c] 90)) 3 #[(g:Int)]).alloc (.cells #[(i:Int)] 3);simpa using this
 have O:Bk w1 (a.heap.size+2) 3 #[(i:Int)]:=by rw [<-v];have:=Bk.new ((a.alloc (.cells #[c] 90)).alloc (.cells #[(g:Int)] 3)) 3 #[(i:Int)];simpa using this
 have L:PermX w1 n c A w G H F d o f e E z:= { r with at_:=K.below R };have am:∀m,w.ownBlock=some m->m < a.heap.size:=fun m t=>(K.lrow.lt m t).2;have aM:∀s,(w1.drewN s).cell? ⟨a.heap.size,0,none⟩=some (.pointer (some ⟨c,0,none⟩)):=fun s=>(M.cell 0).trans rfl;have aN:∀s,(w1.drewN s).cell? ⟨a.heap.size+1,0,none⟩=some (.int .i64 (g:Int)):=fun s=>(N.cell 0).trans rfl;have aO:∀s,(w1.drewN s).cell? ⟨a.heap.size+2,0,none⟩=some (.int .i64 (i:Int)):=fun s=>(O.cell 0).trans rfl;have aQ:w1.cell? ⟨a.heap.size,0,none⟩=some (.pointer (some ⟨c,0,none⟩)):=(M.cell 0).trans rfl;have aR:w1.cell? ⟨a.heap.size+1,0,none⟩=some (.int .i64 (g:Int)):=(N.cell 0).trans rfl;have aS:w1.cell? ⟨a.heap.size+2,0,none⟩=some (.int .i64 (i:Int)):=(O.cell 0).trans rfl;have aP:w1.cell? ⟨c,3,none⟩=some (.int .i64 (d:Int)):=(L.at_.blk.cell 3).trans rfl;have aX:=L.at_.blk.lt;have a5:∀b,b∈f->aB e b < d/\aI e b < o:=fun b p=>a8 (aB e b,aI e b) (zAy.2 ⟨b,p,rfl⟩);have ac:∀k∈f,∀y∈f,aB e k=aB e y->k=y:=fun k aH y P l=>by have ak:=List.pairwise_map.1 al;obtain ⟨B,ab,rfl⟩:=List.getElem_of_mem aH;obtain ⟨C,ad,rfl⟩:=List.getElem_of_mem P;rcases Nat.lt_trichotomy B C with q | q | q;have aF:aB e f[B] < aB e f[C]:=zAr.1 ak B C ab ad q;omega;subst q;rfl;have aF:aB e f[C] < aB e f[B]:=zAr.1 ak C B ad ab q;omega
 obtain ⟨j,Z,ax,aq,ar,au,av,aA,Q⟩:=hqq9 L a5 ac R M N O v am;have az:=lhd ah;clear r K al a8 L a5 ac R M N O v am ah ai;go_enter func122,ntmps122;go_wp2_with fail;rw [aA.out];go_quiet (fail)
 rename_i nq
 have aZ:∀(a4:Fn) (first a2:Array Value) (a:World),(Instr.makeFunc a4 first a2).run prog a=.ok (.func a4 first a2) a:=fun _ _ _ _=>rfl;go_wp2_with fail;have u:=j.out.drewN nq;have aG:=gQ u.nd u.at_.lt;refine (uR 0 c A (a.heap.size+1) (a.heap.size+2) g i w G H F d o f e E z _ u.at_ u.nd (by have:=u.sz;omega) (au.out.drewN nq) (fun m t l=>by have:=Q.out m t;omega) (av.out.drewN nq) (fun m t l=>by have:=Q.out m t;omega) (fun b p=>by have:=Z.out b p;omega)).mono ?_;rintro l x ⟨rfl,U,I,V,T,a7⟩;have X:∀b,b∈f->aB I b=mvR g i (aB e b):=fun b p=>(Prod.mk.inj (T b p)).1;have J:PermX x n c A w G H F d o f I E z:=⟨a7,j.out.fp,j.out.fa,j.out.fl,j.out.fo,j.out.ft,j.out.ff,j.out.nd,by rw [V];exact j.out.tkl,j.out.tkk,j.out.frn,j.out.frk,by rw [V];exact j.out.sz⟩;have S:Bk x a.heap.size 90 #[c]:=U.bk (ar.out.drewN nq) fun l=>by have:=Q.out _ l;omega
 have af:Keep n a x:=(Keep.of_below (below_drewN aq.out nq)).trans (U.mono fun m _ t=>j.out.fl m t);obtain ⟨ap,aD,a3,a9⟩:=aBW n c A a.heap.size d o w G H F f I E z x J S az.out (fun k r y P l=>ax.out k r y P (aJI (by rw [<-X k r,<-X y P,l])));have aC:x.cell? ⟨c,2,none⟩=some (.slice ap f.length aD):=(J.at_.blk.cell 2).trans (by rw [a3];rfl);have aT:x.cell? ⟨a.heap.size,0,none⟩=some (.pointer (some ⟨c,0,none⟩)):=(S.cell 0).trans rfl;have aY:=J.at_.blk.lt;obtain ⟨ay,a0,aw⟩:=hqq3 af T a9;clear af T a9 J S U V a7 X u aG aQ aR aS aM aN aO aP a3;go_wp2_with fail;refine aw.out.mono ?_;rintro l ao ⟨rfl,aL,W,aj,a6,ae⟩;have aa:(∃D,D.Perm ((f.map fun b=>(aB e b,aI e b)).map fun k=>(mvR g i k.1,k.2))/\PermE ao n c d o D)/\Keep n a ao:=by refine ⟨⟨_,?_,⟨A,w,G,H,F,aL,I,E,z,a6,rfl⟩,List.pairwise_map.2 aj,fun k r=>?_⟩,ay.out.trans ae⟩;refine (W.map _).trans ?_;rw [zCh];refine List.Perm.of_eq (List.map_congr_left fun b p=>?_);exact a0.out b p;obtain ⟨b,p,rfl⟩:=zAy.1 r;have ag:=W.subset p;have q:=Z.out b ag;rw [a0.out b ag];exact ⟨aKA aJ aK q.1,q.2⟩
 have a1:=lhd aa;clear aa a6 ae W aj aC aT;go_wp2_with fail;go_ret;exact ⟨rfl,a1.out.1,a1.out.2⟩
end
section
open Go.RowKit
theorem aDt (v e g x n d a:Nat) (b:List (Nat×Nat)) (i:World) (f:i.ownsRow v 170 2 (.slice (some ⟨e,0,none⟩) g x) g (bU b)) (j:a < b.length) (u:Bk i n 3 #[(d:Int)]) (J:aB b a<=1000000000000):
 Calls prog 156 #[.pointer (some ⟨e,a*2,none⟩),n] i fun H A=>H=.returned (.tuple #[])/\A.ownsRow v 170 2 (.slice (some ⟨e,0,none⟩) g x) g (bU (b.set a (aW (aB b a) d,aI b a)))/\Keep (fun l=>l=e) i A:=by
 obtain ⟨y,z⟩:=cG b a j;have K:b.length=g:=by have I:=f.1;rw [dB] at I;omega
 have E:=(World.ownsRow.cellAt f (a*2) oM).trans y;have G:=(World.ownsRow.cellAt f (a*2+1) oM).trans z;have U:i.cell? ⟨n,0,none⟩=some (.int .i64 (d:Int)):=(u.cell 0).trans rfl;obtain ⟨O,o⟩:=fI f;have Q:=o.frozen (a*2);have R:=o.lt;have S:=u.lt;have k:=lD b a j;have t:=fun M=>kK b a M j;obtain ⟨c,s⟩:=eqx (aB b a);obtain ⟨L,r⟩:=eqx (aI b a);rw [s] at E k J;rw [r] at G k t;rw [s,r];obtain ⟨w,C,D⟩:=hqq3 f k t;clear f j u y z o k t K s r;by_cases T:d < c
 · have N:decide ((c:Int) > (d:Int))=true:=zBz oM;have P:IntKind.i64.wrap ((c:Int) - 1)=((c - 1:Nat):Int):=(by rw [IntKind.wrap_i64];omega);have q:=(World.ownsRow.stored w.out (a*2) (.int .i64 ((c - 1:Nat):Int))).1;rw [D.out] at q;have B:=lhd q;clear q;go_enter func156,ntmps156;go_wp2_with fail;go_quiet (fail);go_wp2_with fail;go_end0;refine ⟨rfl,?_,Keep.setCell (F:=fun l=>l=e) ((Keep.refl _ _).drewN _) (p:=⟨e,a*2,none⟩) (.inl rfl) _⟩;have m:aW (c) d=c - 1:=(by unfold aW;rw [zBx oM]);rw [m];exact B.out
 · have N:decide ((c:Int) > (d:Int))=false:=zBy oM;go_enter func156,ntmps156;go_wp2_with fail;go_quiet (fail);go_wp2_with fail;go_end0;refine ⟨rfl,?_,(Keep.refl _ _).drewN _⟩;have m:aW (c) d=c:=(by unfold aW;rw [zBw oM]);rw [m,C.out];exact w.out
theorem aDB (v e g x n d a:Nat) (b:List (Nat×Nat)) (i:World) (f:i.ownsRow v 170 2 (.slice (some ⟨e,0,none⟩) g x) g (bU b)) (j:a < b.length) (u:Bk i n 3 #[(d:Int)]) (J:aI b a<=1000000000000):
 Calls prog 158 #[.pointer (some ⟨e,a*2,none⟩),n] i fun H A=>H=.returned (.tuple #[])/\A.ownsRow v 170 2 (.slice (some ⟨e,0,none⟩) g x) g (bU (b.set a (aB b a,aW (aI b a) d)))/\Keep (fun l=>l=e) i A:=by
 obtain ⟨y,z⟩:=cG b a j;have K:b.length=g:=by have I:=f.1;rw [dB] at I;omega
 have E:=(World.ownsRow.cellAt f (a*2) oM).trans y;have G:=(World.ownsRow.cellAt f (a*2+1) oM).trans z;have U:i.cell? ⟨n,0,none⟩=some (.int .i64 (d:Int)):=(u.cell 0).trans rfl;obtain ⟨N,o⟩:=fI f;have P:=o.frozen (a*2+1);have Q:=o.lt;have R:=u.lt;have k:=lD b a j;have t:=fun L=>nK b a L j;obtain ⟨T,s⟩:=eqx (aB b a);obtain ⟨c,r⟩:=eqx (aI b a);rw [s] at E k t;rw [r] at G k J;rw [s,r];obtain ⟨w,C,D⟩:=hqq3 f k t;clear f j u y z o k t K s r;by_cases S:d < c
 · have M:decide ((c:Int) > (d:Int))=true:=zBz oM;have O:IntKind.i64.wrap ((c:Int) - 1)=((c - 1:Nat):Int):=(by rw [IntKind.wrap_i64];omega);have q:=(World.ownsRow.stored w.out (a*2+1) (.int .i64 ((c - 1:Nat):Int))).1;rw [D.out] at q;have B:=lhd q;clear q;go_enter func158,ntmps158;go_wp2_with fail;go_quiet (fail);go_wp2_with fail;go_end0;refine ⟨rfl,?_,Keep.setCell (F:=fun l=>l=e) ((Keep.refl _ _).drewN _) (p:=⟨e,a*2+1,none⟩) (.inl rfl) _⟩;have m:aW (c) d=c - 1:=(by unfold aW;rw [zBx oM]);rw [m];exact B.out
 · have M:decide ((c:Int) > (d:Int))=false:=zBy oM;go_enter func158,ntmps158;go_wp2_with fail;go_quiet (fail);go_wp2_with fail;go_end0;refine ⟨rfl,?_,(Keep.refl _ _).drewN _⟩;have m:aW (c) d=c:=(by unfold aW;rw [zBw oM]);rw [m,C.out];exact w.out
theorem yX (t p z P o:Nat) (l J K I:Value) (w v:Nat) (c:List Nat) (f:List (Nat×Nat)) (H:List Bool) (y:List Nat) (q:World) (A:PermAt q t p z l J K I w v c f H y) (E:c.Nodup) (aL:c.length<=1000000) (aO:Bk q P 3 #[(o:Int)]) (aK:∀d,l.ownBlock=some d->d≠P) (ae:∀a,a∈c->aB f a<=1000000000000/\aI f a<=1000000000000):
 Calls prog 118 #[p,.func (.func 156) #[] #[P]] q fun j al=>j=.returned (.tuple #[])/\Keep (fun d=>l.ownBlock=some d) q al/\∃L,L.length=f.length/\(∀a,a∈c->(aB L a,aI L a)=(aW (aB f a) o,aI f a))/\PermAt al t p z l J K I w v c L H y:=by
 obtain ⟨am,az,a5,_,_⟩:=aR A.orow;have aC:q.cell? ⟨p,2,none⟩=some (.slice am c.length az):=(A.blk.cell 2).trans (by rw [a5];rfl);have aX:=A.blk.lt;obtain ⟨G,a4⟩:=eqx c.length;rw [a4] at aC aL;obtain ⟨an,X,ay,aw,ao⟩:=hqq5 A a4 a5 E ae;clear A a4 a5 E ae;go_enter func118,ntmps118;go_wp2_with fail;go_loopw [11] (fun a6 wr=>∃(g:Nat) (b:List (Nat×Nat)),g<=G/\a6=.int .i64 (g:Int)/\b.length=f.length/\(∀a,a∈c.take g->(aB b a,aI b a)=(aW (aB f a) o,aI f a))/\(∀a,a∈c.drop g->(aB b a,aI b a)=(aB f a,aI f a))/\PermAt wr t p z l J K I w v c b H y/\Keep (fun d=>l.ownBlock=some d) q wr) (fun a6 _=>G -(intOf a6).toNat)
 case atStart=>exact ⟨0,f,zAp _,rfl,rfl,fun a n=>by simp at n,fun a _=>rfl,an.out,Keep.refl _ _⟩
 case round=>
  obtain ⟨g,b,aZ,rfl,a3,R,S,e,n⟩:=hrel;by_cases aj:g < G
  · have B:g < c.length:=(by rw [X.out];exact aj);obtain ⟨a,C⟩:∃a,c[g]?=some a:=⟨_,zAa B⟩;have a2:=zAd C;have a1:a < b.length:=e.lt a a2;have T:=e.orow;rw [ay.out] at T;obtain ⟨aF,b2,aE,_,aV⟩:=World.ownsRow.form T oM;injection aE with e2a _ e2c;subst e2a e2c;have D:=e.lrow;obtain ⟨O,ak,N,_,aU⟩:=World.ownsRow.form D oM;rw [N] at D;have aD:wr.cell? ⟨aF,g,none⟩=some (.int .i64 (a:Int)):=(World.ownsRow.cellAt T g oM).trans (by rw [zAf,C];rfl);have ad:wr.cell? ⟨p,1,none⟩=some (.slice (some ⟨O,0,none⟩) b.length ak):=(e.blk.cell 1).trans (by rw [N];rfl);have aY:=e.blk.lt;have b1:=n.size;have ah:a∈c.drop g:=(by rw [zAx B,List.getElem_eq_getElem?_get];simp [C]);have aG:(aB b a,aI b a)=(aB f a,aI f a):=S a ah;injection aG with hCr hCp;have aQ:=fun (d:Nat) (j:Value.ownBlock l=some d)=>(World.ownsRow.lt e.lrow d j).2;obtain ⟨ac,Z⟩:=eqx b.length;rw [Z] at D ad a1;have aS:=n.bk aO (fun j=>aK _ j rfl);have b0:(a:Int) < (ac:Int):=oM;obtain ⟨Y,W,ab,aa,V,aq,M,av,a9⟩:=hqq9 e n D C R S Z a3 N;obtain ⟨a8,ap,au⟩:=hqq3 hCr hCp a2;clear e n D C R S Z a3 N hCr hCp a2 ah T aQ;go_wp2_with fail;refine (aDt t O ac ak P o a b wr ab.out (by rw [M.out];exact a1) aS (by rw [a8.out];exact (ao.out a au.out).1)).mono ?_;rintro j w1 ⟨rfl,ai,s⟩
    have af:PermAt w1 t p z l J K I w v c (b.set a (aW (aB b a) o,aI b a)) H y:=by
        have e:=Y.out;have F:∀d a7 x,a7≠170->Bk wr d a7 x->d≠O:=fun d a7 x aN m j=>by subst j;obtain ⟨aT,aH⟩:=fI ab.out;exact aN (aM m aH).1
        refine ⟨s.bk e.blk (F _ _ _ dC e.blk),?_,aA e.orow fun d x _ m=>s.bk m (F _ _ _ dC m),s.bk e.ar (F _ _ _ dC e.ar),aA e.trow fun d x _ m=>s.bk m (F _ _ _ dC m),aA e.frow fun d x _ m=>s.bk m (F _ _ _ dC m),e.apart,fun i k=>by rw [zAt];exact e.lt i k,e.lo⟩;rw [zAt,M.out,a9.out,M.out];exact ai
    have ag:Keep (fun d=>l.ownBlock=some d) q w1:=W.out.trans (s.mono fun d _ j=>by rw [a9.out,show d=O from j];rfl)
    have a0:∀i,(aB (b.set a (aW (aB b a) o,aI b a)) i,aI (b.set a (aW (aB b a) o,aI b a)) i)=if i=a then (aW (aB b a) o,aI b a) else (aB b i,aI b i):=fun i=>by
        unfold aB aI;rw [zAb,zBm];by_cases r:a=i;subst r;rw [zBx rfl,zBx rfl,zBx (by rw [M.out];exact a1)];rfl
        · rw [zBw r,zBw (fun j=>r j.symm),zAb]
    have hrel:∃(U:Nat) (u:List (Nat×Nat)),U<=G/\Value.int .i64 ((g+1:Nat):Int)=.int .i64 (U:Int)/\u.length=f.length/\(∀a,a∈c.take U->(aB u a,aI u a)=(aW (aB f a) o,aI f a))/\(∀a,a∈c.drop U->(aB u a,aI u a)=(aB f a,aI f a))/\PermAt w1 t p z l J K I w v c u H y/\Keep (fun d=>l.ownBlock=some d) q w1:=by
        refine ⟨g+1,_,by omega,rfl,by rw [zAt];exact av.out,fun i k=>?_,fun i k=>?_,af,ag⟩
        · rw [a0];by_cases r:i=a
          · subst r;rw [zBx rfl,a8.out,ap.out]
          rw [zBw r];refine V.out i ?_;rw [zAv,aa.out] at k;simp at k;rcases k with k | k;exact k;exact absurd k r
        · rw [a0];have aP:i≠a:=fun j=>by subst j;have aJ:c.drop g=i::c.drop (g+1):=(by have B:g < c.length:=(by rw [X.out];exact aj);rw [zAx B];have Q:=aa.out;rw [zAa B] at Q;injection Q with Q;rw [Q]);have E:=(List.drop_sublist g c).nodup aw.out;rw [aJ,List.nodup_cons] at E;exact E.1 k
          rw [zBw aP];exact aq.out i (List.mem_of_mem_drop (by rw [<-List.drop_drop] at k;exact k:i∈(c.drop g).drop 1))
    have ax:=lhd hrel;clear af ag a0 hrel s ai ad aD;go_wp2_with fail;go_roundw
    case rel=>exact ax.out
    case measure=>simp [intOf];omega
  · obtain rfl:g=G:=oM;obtain ⟨Y,W,V⟩:=hqq3 e n R;clear e n R S;go_wp2_with fail;go_end0;refine ⟨rfl,W.out,b,a3,fun a n=>V.out a ?_,Y.out⟩;rw [zAg (by rw [X.out];exact zAs _)];exact n
theorem yY (t p z P o:Nat) (l J K I:Value) (w v:Nat) (c:List Nat) (f:List (Nat×Nat)) (H:List Bool) (y:List Nat) (q:World) (A:PermAt q t p z l J K I w v c f H y) (E:c.Nodup) (aL:c.length<=1000000) (aO:Bk q P 3 #[(o:Int)]) (aK:∀d,l.ownBlock=some d->d≠P) (ae:∀a,a∈c->aB f a<=1000000000000/\aI f a<=1000000000000):
 Calls prog 118 #[p,.func (.func 158) #[] #[P]] q fun j al=>j=.returned (.tuple #[])/\Keep (fun d=>l.ownBlock=some d) q al/\∃L,L.length=f.length/\(∀a,a∈c->(aB L a,aI L a)=(aB f a,aW (aI f a) o))/\PermAt al t p z l J K I w v c L H y:=by
 obtain ⟨am,az,a5,_,_⟩:=aR A.orow;have aC:q.cell? ⟨p,2,none⟩=some (.slice am c.length az):=(A.blk.cell 2).trans (by rw [a5];rfl);have aX:=A.blk.lt;obtain ⟨G,a4⟩:=eqx c.length;rw [a4] at aC aL;obtain ⟨an,X,ay,aw,ao⟩:=hqq5 A a4 a5 E ae;clear A a4 a5 E ae;go_enter func118,ntmps118;go_wp2_with fail;go_loopw [11] (fun a6 wr=>∃(g:Nat) (b:List (Nat×Nat)),g<=G/\a6=.int .i64 (g:Int)/\b.length=f.length/\(∀a,a∈c.take g->(aB b a,aI b a)=(aB f a,aW (aI f a) o))/\(∀a,a∈c.drop g->(aB b a,aI b a)=(aB f a,aI f a))/\PermAt wr t p z l J K I w v c b H y/\Keep (fun d=>l.ownBlock=some d) q wr) (fun a6 _=>G -(intOf a6).toNat)
 case atStart=>exact ⟨0,f,zAp _,rfl,rfl,fun a n=>by simp at n,fun a _=>rfl,an.out,Keep.refl _ _⟩
 case round=>
  obtain ⟨g,b,aZ,rfl,a3,R,S,e,n⟩:=hrel;by_cases aj:g < G
  · have B:g < c.length:=(by rw [X.out];exact aj);obtain ⟨a,C⟩:∃a,c[g]?=some a:=⟨_,zAa B⟩;have a2:=zAd C;have a1:a < b.length:=e.lt a a2;have T:=e.orow;rw [ay.out] at T;obtain ⟨aF,b2,aE,_,aV⟩:=World.ownsRow.form T oM;injection aE with e2a _ e2c;subst e2a e2c;have D:=e.lrow;obtain ⟨O,ak,N,_,aU⟩:=World.ownsRow.form D oM;rw [N] at D;have aD:wr.cell? ⟨aF,g,none⟩=some (.int .i64 (a:Int)):=(World.ownsRow.cellAt T g oM).trans (by rw [zAf,C];rfl);have ad:wr.cell? ⟨p,1,none⟩=some (.slice (some ⟨O,0,none⟩) b.length ak):=(e.blk.cell 1).trans (by rw [N];rfl);have aY:=e.blk.lt;have b1:=n.size;have ah:a∈c.drop g:=(by rw [zAx B,List.getElem_eq_getElem?_get];simp [C]);have aG:(aB b a,aI b a)=(aB f a,aI f a):=S a ah;injection aG with hCr hCp;have aQ:=fun (d:Nat) (j:Value.ownBlock l=some d)=>(World.ownsRow.lt e.lrow d j).2;obtain ⟨ac,Z⟩:=eqx b.length;rw [Z] at D ad a1;have aS:=n.bk aO (fun j=>aK _ j rfl);have b0:(a:Int) < (ac:Int):=oM;obtain ⟨Y,W,ab,aa,V,aq,M,av,a9⟩:=hqq9 e n D C R S Z a3 N;obtain ⟨ap,a8,au⟩:=hqq3 hCr hCp a2;clear e n D C R S Z a3 N hCr hCp a2 ah T aQ;go_wp2_with fail;refine (aDB t O ac ak P o a b wr ab.out (by rw [M.out];exact a1) aS (by rw [a8.out];exact (ao.out a au.out).2)).mono ?_;rintro j w1 ⟨rfl,ai,s⟩
    have af:PermAt w1 t p z l J K I w v c (b.set a (aB b a,aW (aI b a) o)) H y:=by
        have e:=Y.out;have F:∀d a7 x,a7≠170->Bk wr d a7 x->d≠O:=fun d a7 x aN m j=>by subst j;obtain ⟨aT,aH⟩:=fI ab.out;exact aN (aM m aH).1
        refine ⟨s.bk e.blk (F _ _ _ dC e.blk),?_,aA e.orow fun d x _ m=>s.bk m (F _ _ _ dC m),s.bk e.ar (F _ _ _ dC e.ar),aA e.trow fun d x _ m=>s.bk m (F _ _ _ dC m),aA e.frow fun d x _ m=>s.bk m (F _ _ _ dC m),e.apart,fun i k=>by rw [zAt];exact e.lt i k,e.lo⟩;rw [zAt,M.out,a9.out,M.out];exact ai
    have ag:Keep (fun d=>l.ownBlock=some d) q w1:=W.out.trans (s.mono fun d _ j=>by rw [a9.out,show d=O from j];rfl)
    have a0:∀i,(aB (b.set a (aB b a,aW (aI b a) o)) i,aI (b.set a (aB b a,aW (aI b a) o)) i)=if i=a then (aB b a,aW (aI b a) o) else (aB b i,aI b i):=fun i=>by
        unfold aB aI;rw [zAb,zBm];by_cases r:a=i;subst r;rw [zBx rfl,zBx rfl,zBx (by rw [M.out];exact a1)];rfl
        · rw [zBw r,zBw (fun j=>r j.symm),zAb]
    have hrel:∃(U:Nat) (u:List (Nat×Nat)),U<=G/\Value.int .i64 ((g+1:Nat):Int)=.int .i64 (U:Int)/\u.length=f.length/\(∀a,a∈c.take U->(aB u a,aI u a)=(aB f a,aW (aI f a) o))/\(∀a,a∈c.drop U->(aB u a,aI u a)=(aB f a,aI f a))/\PermAt w1 t p z l J K I w v c u H y/\Keep (fun d=>l.ownBlock=some d) q w1:=by
        refine ⟨g+1,_,by omega,rfl,by rw [zAt];exact av.out,fun i k=>?_,fun i k=>?_,af,ag⟩
        · rw [a0];by_cases r:i=a
          · subst r;rw [zBx rfl,ap.out,a8.out]
          rw [zBw r];refine V.out i ?_;rw [zAv,aa.out] at k;simp at k;rcases k with k | k;exact k;exact absurd k r
        · rw [a0];have aP:i≠a:=fun j=>by subst j;have aJ:c.drop g=i::c.drop (g+1):=(by have B:g < c.length:=(by rw [X.out];exact aj);rw [zAx B];have Q:=aa.out;rw [zAa B] at Q;injection Q with Q;rw [Q]);have E:=(List.drop_sublist g c).nodup aw.out;rw [aJ,List.nodup_cons] at E;exact E.1 k
          rw [zBw aP];exact aq.out i (List.mem_of_mem_drop (by rw [<-List.drop_drop] at k;exact k:i∈(c.drop g).drop 1))
    have ax:=lhd hrel;clear af ag a0 hrel s ai ad aD;go_wp2_with fail;go_roundw
    case rel=>exact ax.out
    case measure=>simp [intOf];omega
  · obtain rfl:g=G:=oM;obtain ⟨Y,W,V⟩:=hqq3 e n R;clear e n R S;go_wp2_with fail;go_end0;refine ⟨rfl,W.out,b,a3,fun a n=>V.out a ?_,Y.out⟩;rw [zAg (by rw [X.out];exact zAs _)];exact n
end
end Go.Proofs.YthldmddkfbijhaaGreatDoor
