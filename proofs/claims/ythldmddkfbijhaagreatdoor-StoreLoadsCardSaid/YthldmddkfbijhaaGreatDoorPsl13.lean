/- Lemmas of the walk. Conditions: each its own. -/
import Derived.Test.YthldmddkfbijhaaGreatDoorPsl10
import Derived.Test.YthldmddkfbijhaaGreatDoorPsl11
import Derived.Test.YthldmddkfbijhaaGreatDoorProg
import Derived.Test.YthldmddkfbijhaaGreatDoorShl
import Derived.Test.YthldmddkfbijhaaGreatDoorSht
set_option linter.all false
set_option maxRecDepth 100000
set_option maxHeartbeats 4000000
open Go.Proofs.Tryz
namespace Go.Proofs.YthldmddkfbijhaaGreatDoor
section
open Go.RowKit
def xN (d gk:Nat) (a:List Nat) (i:Nat) (b:World) (f:WalkAt b d gk a) (l:i < a.length):
 Calls prog 160 #[gk,(i:Int)] b fun e g=>e=.returned (.bool true)/\b=g:=by
 obtain ⟨m,c⟩:=eqx a.length;rw [c] at l;have n:(i:Int) < (m:Int):=oM;obtain ⟨k,j⟩:=hqq2 c f;clear c f;go_enter func160,ntmps160;go_wp2_with fail;refine (kJ d gk a b j.out).mono ?_;rintro e g ⟨rfl,rfl⟩;rw [k.out];go_wp2_with fail;go_ret;exact ⟨rfl,rfl⟩
def lZ (e gk:Nat) (c:List Nat) (i b:Nat) (m:World) (E:WalkAt m e gk c) (q:c[i]?=some b) (x:∀A∈c,A < 257) (z:c.length<=1000):
 Calls prog 101 #[gk,(i:Int)] m fun g a7=>g=.returned (.int .i64 ((cL c b i:Nat):Int))/\VB e m a7:=by
 have K:=(zAc.1 q).1;have M:b < 257:=x _ (zAd q);have I:=E;obtain ⟨o,ah,p,G,a2⟩:=E;have Z:=p.cell 0;have ak:=p.lt;obtain ⟨l,y⟩:=eqx (cL c b i);obtain ⟨t,r⟩:∃a6,c.countP (fun A=>decide (A < b))=a6:=⟨_,rfl⟩;obtain ⟨u,s⟩:=eqx ((c.take i).count b);have L:t+u=l:=by rw [<-r,<-s,<-y];rfl
 have ai:t<=1000:=by rw [<-r];exact zAk zBh z
 have aj:u<=1000:=by rw [<-s];exact zAk zBv (by rw [zAj];omega)
 rw [y];obtain ⟨B,O,C,v,U,D,w,W,X⟩:=hqq9 I p G K q x z r s;have V:=lhd L;clear I p G a2 K q x z r s y L;go_enter func101,ntmps101;go_wp2_with fail;refine (xN e gk c i m B.out v.out).mono ?_;rintro g w1 ⟨rfl,rfl⟩;go_wp2_with fail;refine (eB e o c i b m C.out v.out (zAc.1 U.out).2 D.out w.out).mono ?_;rintro g n ⟨rfl,k⟩;have J:=B.out.vis k.1;have F:=k.1.bk O.out dC dC;have H:=C.out.vis k.1;obtain ⟨T,P,Q,Y⟩:=hqq4 J F H k;clear J F H k Z;go_wp2_with fail;refine wp_region_any kR ?_;refine aV [20,21,22,23,24,25,26,27,28,29,30,4] (VB e) (Vs [is gk,is (b:Int),is (t:Int),is gk,is gk,is gk,is o,is (i:Int),is (b:Int),is (u:Int),is (l:Int),is (l:Int)]) _ _ rfl kR vR (fun _ _=>VisK.trans) (cZ tA1) ?_ ?_
 · refine aO ?_;refine pH 0 (.pointer (some gk)) ?_;refine pH 5 (.int .i64 (b:Int)) ?_;refine sC (fun _ f a _ _ _ d _ _ _ j=>?_) ?_
   · have aa:_=_:=d 0 20 kR rfl;have ab:_=_:=d 1 21 kR rfl;replace a:(VB e) n f:=bD a;go_simp;refine (iI e gk c b f (T.out.vis a.1) M w.out).mono ?_;rintro g a9 ⟨rfl,a3⟩;rw [W.out];exact j _ _ (VisK.of_below a3) rfl
   refine pH 0 (.pointer (some gk)) ?_;refine pV 3 23 ?_;refine pV 4 24 ?_;refine pL 5 25 (fun f a=>have a:(VB e) n f:=bD a;(((a.1.bk P.out dC dC).cell 0).trans rfl:f.cell? gk=some (.pointer (some o)))) ?_;refine pH 1 (.int .i64 (i:Int)) ?_;refine pH 5 (.int .i64 (b:Int)) ?_;refine sC (fun _ f a _ _ _ d _ _ _ j=>?_) ?_
   · have ad:_=_:=d 6 26 kR rfl;have ae:_=_:=d 7 27 kR rfl;have af:_=_:=d 8 28 kR rfl;replace a:(VB e) n f:=bD a;go_simp;refine (gY e o c i b f (Q.out.vis a.1) M (zCm v.out) D.out w.out).mono ?_;rintro g a9 ⟨rfl,a5⟩;rw [X.out];exact j _ _ a5 rfl
   refine sC (fun _ _ _ _ _ _ d _ _ _ j=>?_) ?_
   · have ac:_=_:=d 2 22 kR rfl;have ag:_=_:=d 9 29 kR rfl;have al:IntKind.i64.wrap ((t:Int)+(u:Int))=(l:Int):=(by rw [IntKind.wrap_i64];have:=V.out;omega);go_simp;exact j _ _ vR rfl
   refine pV 10 30 ?_;exact aD
 · intro a1 a8 a d;replace a:(VB e) n a8:=bD a;have a0:a1 (.tmp 4)=.int .i64 (l:Int):=d 11 4 rfl;simp only [zqq];rw [a0];clear d;have a4:=Y.out.trans a;go_wp2_with fail;go_ret;exact ⟨rfl,a4⟩
def aCi {a:List UInt8} {c:List Nat} (d:IsSuf (aG a) c):c[0]?=some a.length:=by
 obtain ⟨o,l,m⟩:=eH a;obtain ⟨j,g,f⟩:=d.row (p:=a.length) oM;rcases zBa j with e | e
 · subst e;rw [zAa g,f]
 · exfalso;have b:=zAr.1 d.sorted 0 j oM g e;rw [f] at b;have n:=d.lt (zBj (show 0 < c.length by omega));have q:c[0]' oM≠a.length:=fun k=>by exact (zAr.1 d.nodup 0 j oM g e) (by rw [k,f])
   rw [iC,eY (by omega:a.length < (aG a).length),eY n,l] at b;have:=m (c[0]' oM) oM;rcases b with b | b;omega;omega
def uU {n c:List Nat} (d:IsSuf n c) {i b k:Nat} (l:c[i]?=some k) (m:c[b]?=some k):i=b:=by
 obtain ⟨e,f⟩:=zAc.1 l;obtain ⟨g,j⟩:=zAc.1 m;rcases Nat.lt_trichotomy i b with a | a | a;exact absurd (by rw [f,j]) (zAr.1 d.nodup i b e g a);exact a;exact absurd (by rw [f,j]) (zAr.1 d.nodup b i g e a)
def aBw (u c o v w x g d a:Nat) (e:List (Nat×Nat)) (l:World) (r:l.ownsRow u 170 2 (.slice (some c) o v) o (bW e)) (z:a < e.length) (A:Bk l w 3 #[(g:Int)]) (B:Bk l x 3 #[(d:Int)]) (H:aB e a<=1000000000000):
 Calls prog 173 #[.pointer (some ⟨c,a*2,none⟩),w,x] l fun G X=>G=.returned (.tuple #[])/\X.ownsRow u 170 2 (.slice (some c) o v) o (bW (e.set a (mvR g d (aB e a),aI e a)))/\Keep (fun j=>j=c) l X:=by
 obtain ⟨W,a3⟩:=cK e a z;have a2:e.length=o:=by have y:=r.1;rw [dH] at y;omega
 have a0:=(World.ownsRow.cellAt r (a*2) oM).trans W;have ae:l.cell? w=some (.int .i64 (g:Int)):=(A.cell 0).trans rfl;have af:l.cell? x=some (.int .i64 (d:Int)):=(B.cell 0).trans rfl;obtain ⟨a6,s⟩:=fL r;have a8:=s.frozen (a*2);have a9:=s.lt;have aa:=A.lt;have ab:=B.lt;have ac:w≠c:=Bk.ne A s dC;have ad:x≠c:=Bk.ne B s dC;have K:=kU e a z;have T:=fun f=>kC e a f z;obtain ⟨b,J⟩:=eqx (aB e a);rw [J] at a0 K H;rw [J];obtain ⟨C,Y,O⟩:=hqq3 r K T;have U:∀f:Nat,(l.setCell ⟨c,a*2,none⟩ (.int .i64 (f:Int))).ownsRow u 170 2 (.slice (some c) o v) o (bW (e.set a (f,aI e a))):=fun f=>by have:=(World.ownsRow.stored C.out (a*2) (.int .i64 (f:Int))).1;rwa [O.out] at this
 have V:∀M f:Nat,((l.setCell ⟨c,a*2,none⟩ (.int .i64 (M:Int))).setCell ⟨c,a*2,none⟩ (.int .i64 (f:Int))).ownsRow u 170 2 (.slice (some c) o v) o (bW (e.set a (f,aI e a))):=fun M f=>by have y:=(World.ownsRow.stored (World.ownsRow.stored C.out (a*2) (.int .i64 (M:Int))).1 (a*2) (.int .i64 (f:Int))).1;rw [List.set_set,O.out] at y;exact y
 have Q:∀f:Value,Keep (fun j=>j=c) l (l.setCell ⟨c,a*2,none⟩ f):=fun f=>Keep.setCell (F:=fun j=>j=c) (Keep.refl _ _) (p:=⟨c,a*2,none⟩) (.inl rfl) _;obtain ⟨D,Z,a4⟩:=hqq3 U V Q;clear r z A B W a3 s K T a2 J U V Q;have t:∀f:Nat,mvR g d b=f->e.set a (mvR g d b,aI e a)=e.set a (f,aI e a):=fun f G=>by rw [G]
 by_cases P:b=g
 · subst P;have m:mvR b d b=d:=(by unfold mvR;rw [zBx rfl]);rw [m];clear t;go_enter func173,ntmps173;go_wp2_with fail;go_quiet (fail);go_wp2_with fail;refine bodyPost_ret (results_none rfl _ _ _) rfl ?_;exact ⟨rfl,qQ (D.out d) rfl,(Keep.setCell (F:=fun j=>j=c) ((Keep.refl _ _).drewN _) (p:=⟨c,a*2,none⟩) (.inl rfl) _)⟩
 · have a5:((b:Int)==(g:Int))=false:=(by rw [zCb];omega);have n:mvR g d b=inR (aW b g) d:=(by unfold mvR;rw [zBw P]);by_cases E:g < b
   · obtain ⟨k,I⟩:∃k,b=k+1:=⟨b - 1,by omega⟩;have b1:decide ((b:Int) > (g:Int))=true:=zBz oM;have a7:IntKind.i64.wrap ((b:Int) - 1)=(k:Int):=(by rw [IntKind.wrap_i64];omega);have L:aW b g=k:=(by unfold aW;rw [zBx E];omega);rw [L] at n;by_cases q:d<=k
     · have b2:decide ((k:Int)>=(d:Int))=true:=zBz oM;have a1:wrap64 ((k:Int)+1)=(b:Int):=(by rw [dN oM oM];omega);have m:mvR g d b=b:=(by rw [n];unfold inR;rw [zBx q];exact I.symm);rw [m];clear t n L H I;go_enter func173,ntmps173;go_wp2_with fail;go_quiet (fail);go_wp2_with fail;go_quiet (fail);go_wp2_with fail;go_quiet (fail);go_wp2_with fail;go_end0;exact ⟨rfl,qQ (Z.out k b) rfl,(Keep.setCell (F:=fun j=>j=c) (Keep.drewN (Keep.setCell (F:=fun j=>j=c) ((Keep.refl _ _).drewN _) (p:=⟨c,a*2,none⟩) (.inl rfl) _) _) (p:=⟨c,a*2,none⟩) (.inl rfl) _)⟩
     · have b2:decide ((k:Int)>=(d:Int))=false:=zBy oM;have m:mvR g d b=k:=(by rw [n];unfold inR;rw [zBw q]);rw [m];clear t n L H I;go_enter func173,ntmps173;go_wp2_with fail;go_quiet (fail);go_wp2_with fail;go_quiet (fail);go_wp2_with fail;go_quiet (fail);go_wp2_with fail;go_end0;exact ⟨rfl,qQ (D.out k) rfl,Keep.drewN (Keep.setCell (F:=fun j=>j=c) ((Keep.refl _ _).drewN _) (p:=⟨c,a*2,none⟩) (.inl rfl) _) _⟩
   · have b1:decide ((b:Int) > (g:Int))=false:=zBy oM;by_cases q:d<=b
     · have b2:decide ((b:Int)>=(d:Int))=true:=zBz oM;have a1:wrap64 ((b:Int)+1)=((b+1:Nat):Int):=(by rw [dN oM oM];omega);have m:mvR g d b=b+1:=(by rw [n];unfold aW;rw [zBw E];unfold inR;rw [zBx q]);rw [m];clear t n;go_enter func173,ntmps173;go_wp2_with fail;go_quiet (fail);go_wp2_with fail;go_quiet (fail);go_wp2_with fail;go_quiet (fail);go_wp2_with fail;go_end0;exact ⟨rfl,qQ (D.out (b+1)) rfl,(Keep.setCell (F:=fun j=>j=c) ((Keep.refl _ _).drewN _) (p:=⟨c,a*2,none⟩) (.inl rfl) _)⟩
     · have b2:decide ((b:Int)>=(d:Int))=false:=zBy oM;have m:mvR g d b=b:=(by rw [n];unfold aW;rw [zBw E];unfold inR;rw [zBw q]);rw [m,Y.out];clear t n;go_enter func173,ntmps173;go_wp2_with fail;go_quiet (fail);go_wp2_with fail;go_quiet (fail);go_wp2_with fail;go_quiet (fail);go_wp2_with fail;go_end0;exact ⟨rfl,C.out,(((Keep.refl _ _).drewN _).drewN _).drewN _⟩
def uL (v s A T U q r:Nat) (m K L J:Value) (R x:Nat) (d:List Nat) (f:List (Nat×Nat)) (I:List Bool) (z:List Nat) (p:World) (B:PermAt p v s A m K L J R x d f I z) (F:d.Nodup) (aR:d.length<=1000000) (aT:Bk p T 3 #[(q:Int)]) (aO:∀c,m.ownBlock=some c->c≠T) (aU:Bk p U 3 #[(r:Int)]) (aP:∀c,m.ownBlock=some c->c≠U) (ah:∀a,a∈d->aB f a<=1000000000000/\aI f a<=1000000000000):
 Calls prog 118 #[s,.func (.func 173) #[] #[T,U]] p fun k ao=>k=.returned (.tuple #[])/\Keep (fun c=>m.ownBlock=some c) p ao/\∃M,M.length=f.length/\(∀a,a∈d->(aB M a,aI M a)=(mvR q r (aB f a),aI f a))/\PermAt ao v s A m K L J R x d M I z:=by
 obtain ⟨ap,aE,aa,_,_⟩:=aQ B.orow;have aF:p.cell? ⟨s,2,none⟩=some (.slice ap d.length aE):=(B.blk.cell 2).trans (by rw [aa];rfl);have b2:=B.blk.lt;obtain ⟨H,a9⟩:=eqx d.length;rw [a9] at aF aR;obtain ⟨aq,a2,aD,az,au⟩:=hqq5 B a9 aa F ah;clear B a9 aa F ah;go_enter func118,ntmps118;go_wp2_with fail;go_loopw [11] (fun i wr=>∃(g:Nat) (b:List (Nat×Nat)),g<=H/\i=.int .i64 (g:Int)/\b.length=f.length/\(∀a,a∈d.take g->(aB b a,aI b a)=(mvR q r (aB f a),aI f a))/\(∀a,a∈d.drop g->(aB b a,aI b a)=(aB f a,aI f a))/\PermAt wr v s A m K L J R x d b I z/\Keep (fun c=>m.ownBlock=some c) p wr) (fun i _=>H -(intOf i).toNat)
 case atStart=>exact ⟨0,f,zAp _,rfl,rfl,fun a n=>by simp at n,fun a _=>rfl,aq.out,Keep.refl _ _⟩
 case round=>
  obtain ⟨g,b,b4,rfl,a8,W,X,e,n⟩:=hrel;by_cases am:g < H
  · have C:g < d.length:=(by rw [a2.out];exact am);obtain ⟨a,D⟩:∃a,d[g]?=some a:=⟨_,zAa C⟩;have a7:=zAd D;have a6:a < b.length:=e.lt a a7;have Y:=e.orow;rw [aD.out] at Y;obtain ⟨aJ,b7,aH,_,b1⟩:=World.ownsRow.form Y oM;injection aH with e2a _ e2c;subst e2a e2c;have E:=e.lrow;obtain ⟨Q,an,P,_,b0⟩:=World.ownsRow.form E oM;rw [P] at E;have aG:wr.cell? ⟨aJ,g,none⟩=some (.int .i64 (a:Int)):=(World.ownsRow.cellAt Y g oM).trans (by rw [zAf,D];rfl);have ag:wr.cell? ⟨s,1,none⟩=some (.slice (some Q) b.length an):=(e.blk.cell 1).trans (by rw [P];rfl);have b3:=e.blk.lt;have b6:=n.size;have ak:a∈d.drop g:=(by rw [zAx C,List.getElem_eq_getElem?_get];simp [D]);have aK:(aB b a,aI b a)=(aB f a,aI f a):=X a ak;injection aK with hCr hCp;have aW:=fun (c:Nat) (k:Value.ownBlock m=some c)=>(World.ownsRow.lt e.lrow c k).2;obtain ⟨N,a4⟩:=eqx b.length;rw [a4] at E ag a6;have aX:=n.bk aT (fun k=>aO _ k rfl);have aY:=n.bk aU (fun k=>aP _ k rfl);have b5:(a:Int) < (N:Int):=oM;obtain ⟨a3,a1,af,ae,a0,aw,O,ay,ad⟩:=hqq9 e n E D W X a4 a8 P;obtain ⟨ac,av,ax⟩:=hqq3 hCr hCp a7;clear e n E D W X a4 a8 P hCr hCp a7 ak Y aW;go_wp2_with fail;refine (aBw v Q N an T U q r a b wr af.out (by rw [O.out];exact a6) aX aY (by rw [ac.out];exact (au.out a ax.out).1)).mono ?_;rintro k w1 ⟨rfl,al,u⟩
    have ai:PermAt w1 v s A m K L J R x d (b.set a (mvR q r (aB b a),aI b a)) I z:=by
        have e:=a3.out;have G:∀c ab y,ab≠170->Bk wr c ab y->c≠Q:=fun c ab y aS o k=>by subst k;obtain ⟨aZ,aM⟩:=fL af.out;exact aS (aL o aM).1
        refine ⟨u.bk e.blk (G _ _ _ dC e.blk),?_,aA e.orow fun c y _ o=>u.bk o (G _ _ _ dC o),u.bk e.ar (G _ _ _ dC e.ar),aA e.trow fun c y _ o=>u.bk o (G _ _ _ dC o),aA e.frow fun c y _ o=>u.bk o (G _ _ _ dC o),e.apart,fun j l=>by rw [zAt];exact e.lt j l,e.lo⟩;rw [zAt,O.out,ad.out,O.out];exact al
    have aj:Keep (fun c=>m.ownBlock=some c) p w1:=a1.out.trans (u.mono fun c _ k=>by rw [ad.out,show c=Q from k];rfl)
    have a5:∀j,(aB (b.set a (mvR q r (aB b a),aI b a)) j,aI (b.set a (mvR q r (aB b a),aI b a)) j)=if j=a then (mvR q r (aB b a),aI b a) else (aB b j,aI b j):=fun j=>by
        unfold aB aI;rw [zAb,zBm];by_cases t:a=j;subst t;rw [zBx rfl,zBx rfl,zBx (by rw [O.out];exact a6)];rfl
        · rw [zBw t,zBw (fun k=>t k.symm),zAb]
    have hrel:∃(Z:Nat) (w:List (Nat×Nat)),Z<=H/\Value.int .i64 ((g+1:Nat):Int)=.int .i64 (Z:Int)/\w.length=f.length/\(∀a,a∈d.take Z->(aB w a,aI w a)=(mvR q r (aB f a),aI f a))/\(∀a,a∈d.drop Z->(aB w a,aI w a)=(aB f a,aI f a))/\PermAt w1 v s A m K L J R x d w I z/\Keep (fun c=>m.ownBlock=some c) p w1:=by
        refine ⟨g+1,_,by omega,rfl,by rw [zAt];exact ay.out,fun j l=>?_,fun j l=>?_,ai,aj⟩
        · rw [a5];by_cases t:j=a
          · subst t;rw [zBx rfl,ac.out,av.out]
          rw [zBw t];refine a0.out j ?_;rw [zAv,ae.out] at l;simp at l;rcases l with l | l;exact l;exact absurd l t
        · rw [a5];have aV:j≠a:=fun k=>by subst k;have aN:d.drop g=j::d.drop (g+1):=(by have C:g < d.length:=(by rw [a2.out];exact am);rw [zAx C];have V:=ae.out;rw [zAa C] at V;injection V with V;rw [V]);have F:=(List.drop_sublist g d).nodup az.out;rw [aN,List.nodup_cons] at F;exact F.1 l
          rw [zBw aV];exact aw.out j (List.mem_of_mem_drop (by rw [<-List.drop_drop] at l;exact l:j∈(d.drop g).drop 1))
    have aC:=lhd hrel;clear ai aj a5 hrel u al ag aG;go_wp2_with fail;go_roundw
    case rel=>exact aC.out
    case measure=>simp [intOf];omega
  · obtain rfl:g=H:=oM;obtain ⟨a3,a1,a0⟩:=hqq3 e n W;clear e n W X;go_wp2_with fail;go_end0;refine ⟨rfl,a1.out,b,a8,fun a n=>a0.out a ?_,a3.out⟩;rw [zAg (by rw [a2.out];exact zAs _)];exact n
end
section
def aEG {a:List Nat} (k:a.Nodup) {x:Nat} (m:x∈a) {c d:Nat->Bool} (j:∀b∈a,b≠x->c b=d b):a.countP c+(if d x then 1 else 0)=a.countP d+(if c x then 1 else 0):=by
 have f:=List.perm_cons_erase m;have l:=f.nodup_iff.1 k;have e:(a.erase x).countP c=(a.erase x).countP d:=List.countP_congr fun b g=>by rw [j b (List.mem_of_mem_erase g) (fun e=>(List.nodup_cons.1 l).1 (e ▸ g))]
 rw [f.countP_eq,f.countP_eq,zBn,zBn,e];omega
def aJZ {R:List Nat} (d:R.Nodup) {a:Nat} (e:a∈R):R.countP (fun f=>decide (ro R f < ro R a))=ro R a:=by
 have b:=zX d (ro R a) (fun _=>true);have c:(R.take (ro R a)).countP (fun _=>true)=(R.take (ro R a)).length:=List.countP_eq_length.2 fun _ _=>rfl;rw [c,zAj] at b;have g:ro R a < R.length:=List.idxOf_lt_length_iff.2 e;rw [zCt oM] at b;simp only [Bool.true_and] at b;exact b.symm
def aIB (c d b:Nat):Nat:=let a:=if d < b then c - 1 else c;if b<=a then a+1 else a
section
variable {S R : List Nat} {N i : Nat}
def aHY (c:Near S R N (i+2)) (B:i+1 < N):(if S.getD (i+1) 0=S.getD i 0 then aIB (cL (aE S R) (S.getD i 0) (ro R (i+1))) (ro R (i+2)) (ro R (i+1)) else cL (aE S R) (S.getD i 0) (ro R (i+1)))=ro R i/\
 (S.getD (i+1) 0=S.getD i 0->ro R (i+2) < ro R (i+1)->0 < cL (aE S R) (S.getD i 0) (ro R (i+1))):=by
 have t:=c.nodup;have l:∀a,a<=N->a∈R:=fun a m=>c.mem.2 m;have n:∀a e,a<=N->e<=N->a≠e->ro R a≠ro R e:=fun a e m v u g=>u (eV (l a m) (l e v) g);have r:=c.endk.pos i oM;rw [qU c.endk c.perm r];have p:(List.range (N+1)).countP (fun a=>decide (ro R a < ro R i))=ro R i:=by rw [<-c.perm.countP_eq];exact aJZ t (l i oM)
 have q:∀d∈List.range (N+1),d≠i+1->decide (ro R d < ro R i)=decide (S.getD d 0 < S.getD i 0∨(S.getD d 0=S.getD i 0/\ro R (d+1) < ro R (i+1))):=fun d w E=>by rw [zCj] at w;rw [decide_eq_decide];by_cases o:d=i;subst o;omega;exact c.cons d i oM oM o oM oM
 have b:=aEG List.nodup_range (x:=i+1) (by simp;omega) q;rw [p] at b;unfold aA6;generalize D:List.countP (fun a=>decide (S.getD a 0 < S.getD i 0∨(S.getD a 0=S.getD i 0/\ro R (a+1) < ro R (i+1)))) (List.range (N+1))=n0 at b⊢;have C:=n i (i+1) oM oM oM;have A:=n (i+2) (i+1) oM oM oM;have y:=c.first (i+1) i oM oM;have z:=c.first i (i+1) oM oM;simp only [zCa,show i+1+1=i+2 by omega] at b;by_cases k:S.getD (i+1) 0=S.getD i 0
 · have j:(S.getD (i+1) 0 < S.getD i 0∨(S.getD (i+1) 0=S.getD i 0/\ro R (i+2) < ro R (i+1)))↔ro R (i+2) < ro R (i+1):=oM;simp only [j] at b;rw [zBx k];unfold aIB;refine ⟨?_,fun _ s=>?_⟩
   · by_cases f:ro R (i+2) < ro R (i+1)
     · rw [zBx f] at b;simp only [zBx f];split at b <;> split <;> omega
     · rw [zBw f] at b;simp only [zBw f];split at b <;> split <;> omega
   · rw [zBx s] at b;split at b <;> omega
 have j:(S.getD (i+1) 0 < S.getD i 0∨(S.getD (i+1) 0=S.getD i 0/\ro R (i+2) < ro R (i+1)))↔ro R (i+1) < ro R i:=oM;simp only [j] at b;rw [zBw k];exact ⟨by omega,fun g=>absurd g k⟩
def sh (b a:Nat):Nat:=if a < b then a else a+1
def aD0 {b c d:Nat} (a:sh b c=sh b d):c=d:=by unfold sh at a;split at a <;> split at a <;> omega
def aAd (a b:Nat):sh a b≠a:=by unfold sh;split <;> omega
def lI {b a:Nat} (e:a≠b):∃d,sh b d=a:=by
 by_cases c:a < b;exact ⟨a,by unfold sh;rw [zBx c]⟩;exact ⟨a - 1,by unfold sh;rw [zBw oM];omega⟩
def lS (b:List Nat) {c:Nat} (d:Nat) (e:c<=b.length) (a:Nat):(aP b c d).getD a 0=if a < c then b.getD a 0 else if a=c then d else b.getD (a - 1) 0:=by
 rw [zAb,iR b d e];split
 · rw [zAb]
 · split;rfl
   · rw [zAb]
def aJs (a:List Nat) {c:Nat} (d:c < a.length) (b:Nat):(aF a c).getD b 0=if b < c then a.getD b 0 else a.getD (b+1) 0:=by
 rw [zAb,dZ a d];split
 · rw [zAb]
 · rw [zAb]
def lR (c:List Nat) {b:Nat} (e a:Nat) (f:b<=c.length):(aP c b e).getD (sh b a) 0=c.getD a 0:=by
 rw [lS c e f];by_cases d:a < b
 · rw [show sh b a=a by unfold sh;rw [zBx d],zBx d]
 · rw [show sh b a=a+1 by unfold sh;rw [zBw d],zBw oM,zBw oM,zBb]
def wR (b:List Nat) {a:Nat} (c:Nat) (d:a<=b.length):(aP b a c).getD a 0=c:=by
 rw [lS b c d,zBw oM,zBx rfl]
def aHz {R:List Nat} (l:R.Nodup) {at_ row:Nat} (n:row<=R.length):ro (aP (R.map (sh at_)) row at_) at_=row/\(∀a∈R,ro (aP (R.map (sh at_)) row at_) (sh at_ a)=inR (ro R a) row)/\(aP (R.map (sh at_)) row at_).Nodup:=by
 have e:row<=(R.map (sh at_)).length:=by simpa using n
 have b:(aP (R.map (sh at_)) row at_).Nodup:=by rw [(fC _ _ _).nodup_iff,List.nodup_cons];refine ⟨fun k=>?_,List.pairwise_map.2 (l.imp fun g j=>g (aD0 j))⟩;obtain ⟨a,_,f⟩:=zAy.1 k;exact aAd _ _ f
 refine ⟨fR b ?_,fun a m=>fR b ?_,b⟩
 · rw [iR _ _ e,zBw oM,zBx rfl]
 rw [iR _ _ e];have d:=cG m;unfold inR;by_cases c:row<=ro R a;rw [zBx c,zBw oM,zBw oM,zBb,zAf,d];rfl;rw [zBw c,zBx oM,zAf,d];rfl
def aJn (f:EndOk S N) {a c:Nat} (k:a<=N) (g:0 < c):EndOk (aP S a c) (N+1):=by
 obtain ⟨d,e,b⟩:=f;refine ⟨by rw [fX _ _ oM,d],?_,fun j l=>?_⟩
 · rw [lS _ _ oM,zBw oM,zBw oM,zBb,e]
 rw [lS _ _ oM];split;exact b j oM;split;exact g;exact b _ oM
def aHN {R:List Nat} (c:R.Perm (List.range (N+1))) {a:Nat} (row:Nat) (n:a<=N):(aP (R.map (sh a)) row a).Perm (List.range (N+1+1)):=by
 refine (List.perm_ext_iff_of_nodup ?_ List.nodup_range).2 fun m=>?_;rw [(fC _ _ _).nodup_iff,List.nodup_cons];refine ⟨fun k=>?_,List.pairwise_map.2 ((c.nodup_iff.2 List.nodup_range).imp fun g j=>g (aD0 j))⟩;obtain ⟨d,_,f⟩:=zAy.1 k;exact aAd _ _ f
 · rw [(fC _ _ _).mem_iff,List.mem_cons,zAy,zCj];constructor
   · rintro (rfl |⟨d,l,rfl⟩);omega
     · have:=zCj.1 (c.mem_iff.1 l);unfold sh;split <;> omega
   · intro e;by_cases b:m=a;exact .inl b
     · obtain ⟨d,rfl⟩:=lI b;refine .inr ⟨d,c.mem_iff.2 (zCj.2 ?_),rfl⟩;unfold sh at e b;split at e <;> omega
def aH0 (a2:IsSuf S R) (r:EndOk S N) {c s:Nat} (u:c<=N) (Y:0 < s):cL (aE S R) s (ro R c)<=R.length/\Near (aP S c s) (aP (R.map (sh c)) (cL (aE S R) s (ro R c)) c) (N+1) c:=by
 have m:=a2.near r;have H:=m.nodup;have l:∀d,d<=N->d∈R:=fun d n=>m.mem.2 n;obtain ⟨row,X⟩:=eqx (cL (aE S R) s (ro R c));have Q:R.countP (fun d=>decide (S.getD d 0 < s∨(S.getD d 0=s/\ro R (d+1) < ro R c)))=row:=by rw [<-X,qU r m.perm Y,m.perm.countP_eq];rfl
 rw [X];have T:row<=R.length:=by rw [<-Q];exact zBh
 have A:∀d,d<=N->(decide (S.getD d 0 < s∨(S.getD d 0=s/\ro R (d+1) < ro R c))=true↔ro R d < row):=fun d n=>by rw [<-Q];refine aAX (K:=fun d=>decide (S.getD d 0 < s∨(S.getD d 0=s/\ro R (d+1) < ro R c))) ?_ _ _ (cG (l d n));rw [zAr];intro w x M P aa k;have a7:ro R R[w]=w:=fR H (zAa M);have a8:ro R R[x]=x:=fR H (zAa P);have a3:R[w]<=N:=m.mem.1 (zBj M);have a4:R[x]<=N:=m.mem.1 (zBj P);have z:=(m.cons R[w] R[x] a3 a4 (fun j=>by rw [j,a8] at a7;omega) oM oM).1 oM;unfold sW at z;rw [zCa] at k⊢;omega
 obtain ⟨E,q,ab⟩:=aHz H (at_:=c) T;have a9:=r.len;refine ⟨T,aJn r u Y,aHN m.perm row u,fun d v n o g=>?_,fun d v n o W V B=>?_⟩
 · by_cases t:d=c
   · subst t;by_cases p:v=d;subst p;omega
     · obtain ⟨b,rfl⟩:=lI p;have e:b<=N:=(by unfold sh at o;split at o <;> omega);rw [E,q b (l b e)] at g;rw [wR _ _ oM,lR _ _ _ oM];have k:=A b e;rw [zCa] at k;unfold inR at g;split at g <;> omega
   · obtain ⟨a,rfl⟩:=lI t;have f:a<=N:=(by unfold sh at n;split at n <;> omega);by_cases p:v=c
     · subst p;rw [E,q a (l a f)] at g;rw [wR _ _ oM,lR _ _ _ oM];have k:=A a f;rw [zCa] at k;unfold inR at g;split at g <;> omega
     · obtain ⟨b,rfl⟩:=lI p;have e:b<=N:=(by unfold sh at o;split at o <;> omega);rw [q a (l a f),q b (l b e)] at g;rw [lR _ _ _ oM,lR _ _ _ oM];refine m.first a b f e ?_;unfold inR at g;split at g <;> split at g <;> omega
 · have C:∀a,a<=N->sh c a+1≠c->a < N->sh c a+1=sh c (a+1):=fun a f z _=>by unfold sh at z⊢;by_cases Z:a < c <;> by_cases a0:a+1 < c <;> simp only [Z,a0,if_true,if_false] at z⊢<;> omega
   have O:c+1=sh c c:=(by unfold sh;rw [zBw oM]);have D:∀a b,a<=N->b<=N->(ro (aP (R.map (sh c)) row c) (sh c a) < ro (aP (R.map (sh c)) row c) (sh c b)↔ro R a < ro R b):=fun a b f e=>by rw [q a (l a f),q b (l b e)];unfold inR;split <;> split <;> omega
   have y:∀F,F<=N->S.getD F 0≠0->F < N:=fun F a6 U=>Nat.lt_of_le_of_ne a6 fun j=>by subst j;exact U r.last
   unfold sW;by_cases t:d=c
   · subst t;obtain ⟨b,rfl⟩:=lI (fun j=>W j.symm);have e:b<=N:=(by unfold sh at o;split at o <;> omega);rw [E,q b (l b e),wR _ _ oM,lR _ _ _ oM];have k:=A b e;rw [zCa] at k;have g:row < inR (ro R b) row↔¬ro R b < row:=(by unfold inR;split <;> omega);rw [g,<-k];by_cases L:S.getD b 0=s
     · have J:=y b e oM;rw [C b e B J,O,D d (b+1) u oM];have:=fun j=>eV (l (b+1) oM) (l d u) j;have U:ro R (b+1)≠ro R d:=fun j=>by have:=this j;unfold sh at B;split at B <;> omega
       omega
     omega
   · obtain ⟨a,rfl⟩:=lI t;have f:a<=N:=(by unfold sh at n;split at n <;> omega);by_cases p:v=c
     · subst p;rw [E,q a (l a f),wR _ _ oM,lR _ _ _ oM];have k:=A a f;rw [zCa] at k;have g:inR (ro R a) row < row↔ro R a < row:=(by unfold inR;split <;> omega);rw [g,<-k];by_cases L:S.getD a 0=s
       · have I:=y a f oM;rw [C a f V I,O,D (a+1) v oM u]
       omega
     · obtain ⟨b,rfl⟩:=lI p;have e:b<=N:=(by unfold sh at o;split at o <;> omega);have a5:a≠b:=fun j=>W (by rw [j]);rw [D a b f e,lR _ _ _ oM,lR _ _ _ oM,m.cons a b f e a5 oM oM];unfold sW;by_cases L:S.getD a 0=S.getD b 0
       · by_cases a1:S.getD a 0=0;have ac:a=N:=Nat.le_antisymm f (zCr.1 fun G=>by have:=r.pos a G;omega);have ad:b=N:=Nat.le_antisymm e (zCr.1 fun G=>by have:=r.pos b G;omega);omega
         · have I:=y a f a1;have J:=y b e oM;rw [C a f V I,C b e B J,D (a+1) (b+1) oM oM]
       omega
def aGl (r:R.Nodup) (m:R.Perm (List.range (N+1))) (p:EndOk S N) {b s row:Nat} (v:b<=N) (y:row<=R.length):aE (aP S b s) (aP (R.map (sh b)) row b)=aP ((aE S R).set (ro R b) s) row (bK S b):=by
 have e:=p.len;have j:(aP S b s).length=N+1+1:=by rw [fX _ _ oM,e]
 have q:∀a,a∈R->a<=N:=fun a t=>by have:=zCj.1 (m.mem_iff.1 t);omega
 have k:b∈R:=m.mem_iff.2 (zCj.2 oM);unfold aE;rw [mY];congr 1
 · apply List.ext_getElem?;intro n;rw [zAf,zAf,zBm,zAf];cases c:R[n]? with
   | none=>
     simp;intro d;subst d;rw [cG k] at c;cases c
   | some a=>
     have x:=q a (zAd c);have l:ro R a=n:=fR r c;show some (bK (aP S b s) (sh b a))=_;by_cases f:a=b
     · subst f;rw [zBx l,zBx (by simpa using (zAc.1 (l ▸ c)).1)];congr 1;rw [show sh a a=a+1 by unfold sh;rw [zBw oM],aX oM,wR _ _ oM]
     · rw [zBw (fun d=>f (by have g:=cG k;rw [d,c] at g;injection g))];show some _=some (bK S a);congr 1;rcases a with _ | a
       · rw [show sh b 0=0 by unfold sh;rw [zBx oM],bV oM,bV oM,j,e,zBb,zBb,lS _ _ oM,zBw oM,zBw oM,zBb]
       · have o:sh b (a+1)=sh b a+1:=(by unfold sh;split <;> split <;> omega);have w:sh b a+1 < N+1+1:=(by unfold sh;split <;> omega);rw [o,aX oM,aX oM,lR _ _ _ oM]
 · rcases b with _ | u
   · rw [bV oM,bV oM,j,e,zBb,zBb,lS _ _ oM,zBw oM,zBw oM,zBb]
   · rw [aX oM,aX oM,lS _ _ oM,zBx oM]
def aEs {a c b:Nat} (d:R[a]?=some b):aE S (aP (aF R a) c b)=aP (aF (aE S R) a) c (bK S b):=by
 unfold aE;rw [mY,rI]
end
end
section
open Go.RowKit
def TabW.vb {a:Nat} {b d:World} (e:TabW b) (j:VB a b d) (k:1 < a) (g:1 < b.heap.size):TabW d:=
 fun c f=>(j.2.cell (p:=⟨1,c,none⟩) g (by show ¬(a<=1);omega)).trans (e c f)
def aDc (e m q B C:Nat) (k:Nat) (X:Int) (A:List Bool) (s r n:Nat) (c:World) (a0:TreeAt c m A) (K:Bk c q 3 #[(r:Int)]) (P:Bk c B 3 #[(n:Int)]) (U:Bk c C 3 #[(k:Int)]) (am:k < 9) (an:n < 257) (O:A[s]?=some (gG n k)) (J:(A.take s).count (gG n k)=r) (G:TabW c) (ai:1 < e) (aj:e<=m):
 Calls prog 201 #[.agg #[m,(k:Int),.int .i64 X],q,B,C] c fun E az=>E=.returned (.tuple #[])/\
  ∃w1,VB e c w1/\Bk w1 q 3 #[(r:Int)]/\az=w1.setCell q (.int .i64 (s:Int)):=by
 have ar:=K.lt;have au:=P.lt;have av:=U.lt;have a1:1 < c.heap.size:=G.pos;obtain ⟨o,w⟩:=eqx (gG n k);rw [w] at O J;obtain ⟨a3,M⟩:=eqx (Obj.cells #[m,(k:Int),.int .i64 X] 157);have l:=(Below.refl c.heap.size c).alloc nL a3;have y:=Bk.new c 157 #[m,(k:Int),.int .i64 X];rw [M] at y;have aw:=y.lt;obtain ⟨t,I⟩:=eqx (c.alloc a3);have T:=a0.below l;have L:=K.below l ar;have Q:=P.below l au;have V:=U.below l av;have H:=G.below l a1;rw [I] at l y T L Q V H aw;have a2:=l.size;obtain ⟨a8,ac,a9,af,Y,ad,ag,a6,a5⟩:=hqq9 w O J T L Q V H l;obtain ⟨ae,ab,a7,aa⟩:=hqq4 y M I a2;clear w O J a0 K P U G l y M T L Q V H I a2;go_enter func201,ntmps201;go_wp2_with fail;rw [ab.out,a7.out];refine wp_region_any kR ?_;refine cD e 7 [5,6,7,8,9,10,11] (fun _=>False) 6 [] (fun _=>True) (is (s:Int)) [is c.heap.size,is m,is (r:Int),is (n:Int),is (k:Int),is (.bool o),dA] _ _ rfl dC kR kR kR (trivial) (fun _ _ _ _ _=>trivial) (iG _ _) tA1 ?_ ?_
 · refine bG ?_;refine pH3 4 (.pointer (some c.heap.size)) ?_;refine sC3 (fun _ b a _ _ _ _ j _ _ _ d=>?_) ?_
   · replace a:VFB e (fun _=>False) t b:=fD a;have aI:_=_:=j 0 5 kR rfl;have W:b.cell? c.heap.size=some (.pointer (some m)):=((a.1.bk ae.out dC dC (fun g=>g)).cell 0).trans rfl;go_simp;exact d _ _ (aH vR) rfl
   refine sC3 (fun p b a _ _ _ x _ _ _ _ d=>?_) ?_
   · replace a:VFB e (fun _=>False) t b:=fD a;have aC:p (.tmp 1)=.pointer (some q):=x 1 kR;have W:b.cell? q=some (.int .i64 (r:Int)):=((a.1.bk Y.out dC dC (fun g=>g)).cell 0).trans rfl;go_simp;exact d _ _ (aH vR) rfl
   refine sC3 (fun p b a _ _ _ x _ _ _ _ d=>?_) ?_
   · replace a:VFB e (fun _=>False) t b:=fD a;have aF:p (.tmp 2)=.pointer (some B):=x 2 kR;have W:b.cell? B=some (.int .i64 (n:Int)):=((a.1.bk ad.out dC dC (fun g=>g)).cell 0).trans rfl;go_simp;exact d _ _ (aH vR) rfl
   refine sC3 (fun p b a _ _ _ x _ _ _ _ d=>?_) ?_
   · replace a:VFB e (fun _=>False) t b:=fD a;have aG:p (.tmp 3)=.pointer (some C):=x 3 kR;have W:b.cell? C=some (.int .i64 (k:Int)):=((a.1.bk ag.out dC dC (fun g=>g)).cell 0).trans rfl;go_simp;exact d _ _ (aH vR) rfl
   refine sC3 (fun _ b _ _ _ _ _ j _ _ _ d=>?_) ?_
   · have aL:_=_:=j 3 8 kR rfl;have aM:_=_:=j 4 9 kR rfl;go_simp;refine (mB n k b an am).mono ?_;rintro E aA ⟨rfl,al⟩;rw [a8.out];exact d _ _ (aH (VisK.of_below al)) rfl
   refine sC3 (fun _ b a _ _ _ _ j _ _ _ d=>?_) ?_
   · replace a:VFB e (fun _=>False) t b:=fD a;have aJ:_=_:=j 1 6 kR rfl;have aK:_=_:=j 2 7 kR rfl;have aE:_=_:=j 5 10 kR rfl;go_simp;have u:=VFB.to_vb a (fun o _ g=>g);have ao:=af.out.vis u.1;have ak:=a6.out.vb u ai (zAl a1 aa.out);refine (xP m A s r o b ao ac.out a9.out ak oM).mono ?_;rintro E aA ⟨rfl,ap⟩;exact d _ _ (aH (ap.mono fun o w=>by rcases w with rfl;exact aj)) rfl
   exact aD
 · intro p z v a j Z;replace a:VFB e (fun _=>False) t z:=fD a;have ah:p (.tmp 11)=.int .i64 (s:Int):=j 6 11 dC rfl;obtain ⟨ay,a4⟩:=Z 6 dC;have ax:(is (s:Int)) ay z:=a4;clear a4 Z;simp only [zqq];rw [ah];clear j;have u:=VFB.to_vb a (fun o _ g=>g);have D:=u.1.bk Y.out dC dC;have aB:z.cell? q=some (.int .i64 (r:Int)):=(D.cell 0).trans rfl;have aN:=D.frozen 0;have aq:=(VisK.of_below (F:=fun o=>e<=o) a5.out).trans u;have aO:=D.lt;clear u a ax;change wpAny prog Region.Mode.any _ _ (1+v) (bX 7 8) _ z;rw [zCs 1 v];refine bC (f:=v) (i:=7) kR ?_;refine bN rfl rfl ?_;generalize d:wpAny prog _ _ _ v _=K5;go_simp;subst d;refine bT kR ?_;go_wp2_with fail;go_end0;exact ⟨rfl,z,aq,D,rfl⟩
def aGS (m a f d O P:Nat) (S:Nat->Value) (B ak k:Int) (q:Nat) (w:List Bool) (j a3 C:Nat) (w0 c:World) (L:Bk c a 154 (wcells S B ak)) (a0:TreeAt w0 f w) (a1:Vis w0 c) (aN:w0.heap.size<=d) (J:Bk c d 3 #[(a3:Int)]) (Z:Bk c O 3 #[(C:Int)]) (V:Bk c P 3 #[(q:Int)]) (aS:q < 9) (aT:C < 257) (af:w[j]?=some (gG C q)) (ad:(w.take j).count (gG C q)=a3) (Q:TabW c) (aF:1 < m) (aI:m<=a) (aH:m<=f) (aG:m<=d):
 Calls prog 111 #[a,.agg #[f,(q:Int),.int .i64 k],.func (.func 201) #[] #[d,O,P]] c fun s a4=>s=.returned (.tuple #[])/\
  VisF (fun b=>b=d) c a4/\Keep (fun b=>m<=b) c a4/\Bk a4 d 3 #[(j:Int)]:=by
 have ag:=a0.vis a1;obtain ⟨aB,av,ay,aw,au,aA⟩:=hqq6 a0 a1 af ad Q Z;have bg:=Z.lt;have aY:1 < c.heap.size:=Q.pos;clear a0 a1 af ad Q Z;obtain ⟨b0,X⟩:=eqx (Obj.cells #[f,(q:Int),.int .i64 k] 157);have ab:=(Below.refl c.heap.size c).alloc nL b0;have Y:=Bk.new c 157 #[f,(q:Int),.int .i64 k];rw [X] at Y;have bd:=V.lt;have be:=J.lt;have bf:=L.lt;have aZ:=Bk.ne J L dC;obtain ⟨M,a6,a5,a8,n,a7,ax⟩:=hqq7 ag J V L ab Y X;clear ag V J L ab Y X;go_enter func111,ntmps111;go_wp2_with fail;rw [ax.out];refine (aDc m f d O P q k w j a3 C _ (M.out.below n.out) (a6.out.alloc _) (aA.out.alloc _) (a5.out.alloc _) aS aT ay.out aw.out (au.out.below n.out aY) aF aH).mono ?_;rintro s u ⟨rfl,w1,t,ae,rfl⟩;obtain ⟨r,ai⟩:=((Vis.of_below n.out).trans t.1).waveC a8.out;have A:=ai.far (p:=d) (fun g=>aZ g.symm) (.int .i64 (j:Int));have aV:=M.out.vis ((Vis.of_below n.out).trans t.1);have z:TreeAt (w1.setCell d (.int .i64 (j:Int))) f w:=aB.out.vis (((av.out.trans (Vis.of_below n.out)).trans t.1).fresh (p:=d) aN _);obtain ⟨D,a2⟩:=z.visits;have v:=(t.1.bk a7.out dC dC).far (p:=d) (fun g=>absurd (show c.heap.size=d from g) oM) (.int .i64 (j:Int));have K:=ae.set 0 (.int .i64 (j:Int));have U:VisF (fun b=>b=d) c (w1.setCell d (.int .i64 (j:Int))):=VisF.put (F:=fun b=>b=d) (VisF.of_vis ((Vis.of_below n.out).trans t.1)) (p:=d) (.inl rfl) _;have W:Keep (fun b=>m<=b) c (w1.setCell d (.int .i64 (j:Int))):=Keep.setCell (F:=fun b=>m<=b) ((Keep.of_below n.out).trans t.2) (p:=d) (.inl aG) _;obtain ⟨G,aa⟩:=eqx (w1.setCell d (.int .i64 (j:Int)));rw [aa] at A z a2 v K U W⊢;have b1:G.cell? c.heap.size=some (.pointer (some f)):=(v.cell 0).trans rfl;obtain ⟨E,az,ar,ap,aq,aC,aE⟩:=hqq7 A v K U W z a2;have aW:=z.lt;have bc:=v.lt;have aQ:=Bk.ne A v dC;have aP:=Bk.ne A K dC;have aR:f≠a:=by rintro rfl;obtain ⟨bb,ak,⟨_,_,H⟩|⟨_,_,_,_,_,I⟩⟩:=aC.out;exact absurd (aL H E.out).1 dC;exact absurd (aL I.tree E.out).1 dC
 clear A v K U W z a2 aa ai aV ae t n M a6 a5 a8 a7 b1;go_wp2_with fail;refine wp_region_any kR ?_;refine bH [9,10,11,12,13,14,15,16,17,18] (fun b=>b=a) 10 [3,10] (fun u=>Bk u a 154 (wcells S B r)) (fun _ u=>Bk u a 154 (wcells S B (IntKind.i64.wrap (r+D)))) [is a,is a,is (.pointer (some ⟨a,10,none⟩)),is (.int .i64 r),is c.heap.size,is f,is (.int .i64 D),is (.int .i64 (IntKind.i64.wrap (r+D))),is a,is (.pointer (some ⟨a,10,none⟩)),dA] _ _ rfl kR kR (E.out) (fun u bi g _ aM=>Bk.below g aM g.lt) (fun _ _ _ g aX=>Bk.below g aX g.lt) tA0 ?_ ?_
 · refine aO ?_;refine pH3 0 (.pointer (some a)) ?_;refine pV3 0 9 ?_;refine pV3 1 10 ?_;refine sC3 (fun _ l _ T _ _ _ o _ _ _ x=>?_) ?_
   · have y:=T rfl;have b5:_=_:=o 2 11 kR rfl;have b3:l.cell? ⟨a,10,none⟩=some (.int .i64 r):=(y.cell 10).trans (bI _ _ _).2.2.2.2.2.2.2.2.2.2;go_simp;exact kq x rfl
   refine pH3 4 (.pointer (some c.heap.size)) ?_;refine pL3 4 13 (fun l e=>have e:Keep (fun b=>b=a) G l:=kD e;(((e.bk az.out (fun g=>aQ (show c.heap.size=a from g).symm)).cell 0).trans rfl:l.cell? c.heap.size=some (.pointer (some f)))) ?_;refine sC3 (fun _ l e _ _ _ _ o _ _ _ x=>?_) ?_
   · replace e:Keep (fun b=>b=a) G l:=kD e;have b6:_=_:=o 5 14 kR rfl;go_simp;refine (fN f D l ((e.cell aW aR).trans aE.out)).mono ?_;rintro s bj ⟨rfl,aK⟩;exact x _ _ (aJ aK) rfl
   refine pW3 3 12 6 15 ?_;refine pV3 0 9 ?_;refine pV3 8 17 ?_;refine sC3 (fun _ l _ T _ _ _ o _ _ _ x=>?_) ?_
   · have y:=T rfl;have b8:_=_:=o 9 18 kR rfl;have b7:_=_:=o 7 16 kR rfl;have b4:l.cell? ⟨a,10,none⟩=some (.int .i64 r):=(y.cell 10).trans (bI _ _ _).2.2.2.2.2.2.2.2.2.2;have ba:=y.frozen 10;go_simp;refine x (.bool true) _ (aU (Keep.setCell (F:=fun b=>b=a) (Keep.refl _ _) (p:=⟨a,10,none⟩) (.inl rfl) _)) ?_;rw [<-cR S B r];exact y.set 10 _
   exact aD
 · intro b9 al e o ac;replace e:Keep (fun b=>b=a) G al:=kD e;obtain ⟨bh,aj⟩:∃b2,(fun _ u=>Bk u a 154 (wcells S B (IntKind.i64.wrap (r+D)))) b2 al:=ac 10 dC;simp only [zqq];clear o ac;have ah:=Vis.of_wave e E.out aj;have a9:=VisF.trans ap.out (VisF.of_vis ah);have H:=aq.out.trans (e.mono fun b _ (s:b=a)=>by rw [s];exact aI);have I:=e.bk ar.out (fun s=>aP (show d=a from s).symm);obtain ⟨am,an,ao⟩:=hqq3 a9 H I;clear ah a9 H I aj e;go_wp2_with fail;go_end0;exact ⟨rfl,am.out,an.out,ao.out⟩
def VisF.waveC {d:Nat->Prop} {g j:World} {b:Nat} {S:Nat->Value} {e f:Int} (k:VisF d g j) (l:Bk g b 154 (wcells S e f)) (m:¬d b):∃c,Bk j b 154 (wcells S e c):=by
 rcases VisF.wave k l m with a |⟨c,a⟩;exact ⟨f,a⟩;rw [cR] at a;exact ⟨c,a⟩
def aJL (d:Value) (c:World):Nat:=match d with
 | .pointer (some a)=>match c.cell? a with
   | some b=>(intOf b+1).toNat
   | none=>0
 | _=>0
def aCB {b:World} {a:Addr} {c:Int} (d:b.cell? a=some (.int .i64 c)):aJL (.pointer (some a)) b=(c+1).toNat:=by
 show (match b.cell? a with | some e=>(intOf e+1).toNat | none=>0)=_;rw [d];rfl
def xJ (m n:Nat) (k:List Nat) (t u c:Nat) (v:World) (f:WaveAt v m n k) (a7:k[t]?=some c) (a4:(k.take t).count c=u) (a2:∀x∈k,x < 257) (aT:k.length<=1000) (aL:TabW v) (aJ:1 < m):
 Calls prog 152 #[n,(u:Int),(c:Int)] v fun F c9=>F=.returned (.int .i64 (t:Int))/\VB m v c9:=by
 have W:=(zAc.1 a7).1;have ap:=(zAc.1 a7).2;have X:c < 257:=by rw [<-ap];exact a2 _ (zBj W)
 have ak:(k.take t).count c < k.count c:=by
  have cw:k.count c=(k.take (t+1)).count c+(k.drop (t+1)).count c:=by rw [<-zCc,zAu]
  have cx:(k.take (t+1)).count c=(k.take t).count c+1:=by rw [zAv,a7,zCc];simp
  omega
 have aI:=kY k t c (zCm W) a2 X;have af:=aAu k t c;rw [a4] at af ak;have aP:∀e,(aK k e (bE c e))[fP k t c e]?=some (gG c e):=fun e=>by have:=aBl k t e W;rw [ap] at this;exact this
 have b2:=f;obtain ⟨bM,S,cN,C,aY⟩:=f;obtain ⟨D,a6⟩:=eqx k.length;have an:(k.take D).count c=k.count c:=by rw [<-a6,List.take_length]
 obtain ⟨ax,aX⟩:=eqx (k.count c);rw [aX] at an ak;rw [a6] at C W;have bW:=C.lt;have bS:decide ((u:Int) < 0)=false:=by simp
 have T:=((Below.refl v.heap.size v).alloc nL (.cells #[(u:Int)] 3)).alloc (by simp) (.cells #[(c:Int)] 3);have H:=(Bk.new v 3 #[(u:Int)]).alloc (.cells #[(c:Int)] 3);have q:=Bk.new (v.alloc (.cells #[(u:Int)] 3)) 3 #[(c:Int)];rw [World.size_alloc] at q;obtain ⟨L,ah⟩:=eqx ((v.alloc (.cells #[(u:Int)] 3)).alloc (.cells #[(c:Int)] 3));obtain ⟨d,a3⟩:=eqx v.heap.size;obtain ⟨y,aR⟩:=eqx (d+1);rw [ah] at T H q;rw [a3] at H;rw [a3,aR] at q;have cK:=H.lt;have cL:=q.lt;obtain ⟨bq,b9,bA,ac,az,bw,bh,bb,bc⟩:=hqq9 af aI (b2.vis (Vis.of_below T)) (C.below T bW) C aY aP a2 a6;obtain ⟨bs,bv,br,be,a0,J,bg,bi,ca⟩:=hqq9 aT an (show ¬ax<=u by omega) aL H q ah T a3;have cb:=lhd aR;clear af aI b2 C aY aP a2 a6 an aX ak a4 a7 ap aL H q ah T aT W;go_enter func152,ntmps152;go_wp2_with fail;rw [bg.out];refine wp_region_any kR ?_;refine aV [8,9,10,11,12,13,14,15,16,17,18,19,20,21,22,23,24] (VB m) (Vs [is n,is (.bool false),is (.bool false),is (u:Int),is (.bool false),is (.bool false),is (.bool false),is (u:Int),is n,is n,is n,is (.pointer (some ⟨n,9,none⟩)),is (D:Int),is (c:Int),is (ax:Int),is (.bool false),is (.bool false)]) _ _ rfl kR vR (fun _ _=>VisK.trans) (cZ tA1) ?_ ?_
 · refine aO ?_;refine pH 0 (.pointer (some n)) ?_;refine pV 0 8 ?_;refine pV 1 9 ?_;refine sG 10 false (fun o b a _ _ w _ _ _ _ j=>?_) ?_
   · have aC:o (.tmp 4)=.pointer (some d):=w 4 kR;replace a:(VB m) L b:=bD a;have Z:b.cell? d=some (.int .i64 (u:Int)):=((a.1.bk a0.out dC dC).cell 0).trans rfl;go_simp;exact j _ _ vR rfl
   refine gV 10 false 3 11 ?_;refine pW 2 10 4 12 ?_;refine pV 5 13 ?_;refine sG 14 false (fun o b a _ _ w _ _ _ _ j=>?_) ?_
   · have aC:o (.tmp 4)=.pointer (some d):=w 4 kR;replace a:(VB m) L b:=bD a;have Z:b.cell? d=some (.int .i64 (u:Int)):=((a.1.bk a0.out dC dC).cell 0).trans rfl;go_simp;exact j _ _ vR rfl
   refine gH 14 false 0 (.pointer (some n)) ?_;refine gH 14 false 0 (.pointer (some n)) ?_;refine gV 14 false 9 17 ?_;refine gV 14 false 10 18 ?_;refine sG 14 false (fun _ b a _ _ _ l _ _ _ j=>?_) ?_
   · have cj:_=_:=l 11 19 kR rfl;replace a:(VB m) L b:=bD a;obtain ⟨K,Y⟩:=a.1.waveC ac.out;have bJ:b.cell? ⟨n,9,none⟩=some (.int .i64 (D:Int)):=(Y.cell 9).trans (bI S D K).2.2.2.2.2.2.2.2.2.1;go_simp;exact j _ _ vR rfl
   refine sG 14 false (fun o b a _ _ w _ _ _ _ j=>?_) ?_
   · have aE:o (.tmp 5)=.pointer (some y):=w 5 kR;replace a:(VB m) L b:=bD a;have Z:b.cell? y=some (.int .i64 (c:Int)):=((a.1.bk J.out dC dC).cell 0).trans rfl;go_simp;exact j _ _ vR rfl
   refine sG 14 false (fun _ b a _ _ _ l _ _ _ j=>?_) ?_
   · have ci:_=_:=l 8 16 kR rfl;have ck:_=_:=l 12 20 kR rfl;have cl:_=_:=l 13 21 kR rfl;replace a:(VB m) L b:=bD a;go_simp;refine (gY m n k D c b (bA.out.vis a.1) X (Nat.le_of_eq bc.out.symm) bb.out bs.out).mono ?_;rintro F b6 ⟨rfl,c0⟩;rw [bv.out];exact j _ _ c0 rfl
   refine sG 14 false (fun _ _ _ _ _ _ l _ _ _ j=>?_) ?_
   · have ch:_=_:=l 7 15 kR rfl;have cm:_=_:=l 14 22 kR rfl;have bU:=br.out;have cE:decide (ax<=u)=false:=zBy bU;go_simp;exact j _ _ vR rfl
   refine pW 6 14 15 23 ?_;exact aD
 · intro o z a l;replace a:(VB m) L z:=bD a;have bK:o (.tmp 24)=.bool false:=l 16 24 rfl;simp only [zqq];rw [bK];clear l;have ar:VB m v z:=(VisK.of_below (a3 ▸ bi.out)).trans a;have H:=a.1.bk a0.out dC dC;have q:=a.1.bk J.out dC dC;have bZ:=a.1.size;obtain ⟨ad,bP⟩:∃x,x=z:=⟨_,rfl⟩;subst bP;have aG:=Bk.new ad 3 #[.int .i64 8];have aQ:=H.alloc (.cells #[.int .i64 8] 3);have al:=q.alloc (.cells #[.int .i64 8] 3);have aZ:=ar.alloc (.cells #[.int .i64 8] 3);obtain ⟨ba,bj,bm,bx⟩:=hqq4 aG aQ al aZ;have cy:m<=d:=oM;have cB:v.heap.size<=ad.heap.size:=ar.1.size;clear aG aQ al aZ H q a ar a0 J bS;go_wp2_with fail;go_loopw [7] (fun x wr=>∃(s B:Nat) (P:Int),B<=9/\P=(B:Int) - 1/\x=.pointer (some s)/\Bk wr s 3 #[.int .i64 P]/\Bk wr d 3 #[.int .i64 ((fP k t c B:Nat):Int)]/\Bk wr y 3 #[(c:Int)]/\VB m v wr/\y < s) (fun x wr=>aJL x wr)
   case atStart=>exact ⟨ad.heap.size,9,8,by omega,by omega,rfl,ba.out,by rw [bq.out];exact bj.out,bm.out,bx.out,by omega⟩
   case round=>
    obtain ⟨s,c3,P,cG,c1,rfl,A,U,q,I,al⟩:=hrel;have aB:wr.cell? s=some (.int .i64 P):=(A.cell 0).trans rfl;rcases c3 with _ | e
    · have c2:decide (P>=0)=false:=(by simp;omega);have bH:wr.cell? d=some (.int .i64 ((fP k t c 0:Nat):Int)):=(U.cell 0).trans rfl;rw [b9.out] at bH;have Q:=lhd I;clear U q A I;go_wp2_with fail;go_ret;exact ⟨rfl,Q.out⟩
    · obtain rfl:P=(e:Int):=oM;have a5:e < 9:=oM;have c2:decide ((e:Int)>=0)=true:=(by simp);obtain ⟨ab,M,aq⟩:=bw.out e a5;obtain ⟨B,am⟩:=eqx (2 ^ e);obtain ⟨r,V⟩:=eqx (bE c e);have aW:r < B:=(by rw [<-am,<-V];exact lM c e X oM);rw [am] at M aq;obtain ⟨G,ae,ag,cH,cA⟩:=World.ownsRow.form M oM;rw [ag] at M;obtain ⟨x,a9⟩:=eqx (fP k t c e);obtain ⟨b7,aa⟩:=eqx (fP k t c (e+1));have av:=kZ k t c e a5;have au:=bh.out e;rw [V,a9,aa] at av;rw [V,a9] at au;rw [aa] at U;have cI:(r:Int) < (B:Int):=oM;have aU:=I.1.own M dC dC;have cC:=M.lt;have aS:∀g,(Value.slice (some G) B ae).ownBlock=some g->g≠d:=fun g aj=>by have cz:G=g:=(by simpa [Value.ownBlock] using aj);omega
      have bp:=lhd aS;clear aS;have a8:∃b5,Bk wr n 154 (wcells S D b5):=I.1.waveC az.out;obtain ⟨b5,a8⟩:=a8;have aM:=be.out.vb I aJ oM;have cJ:=I.1.size;obtain ⟨bF,bC,bt,ay,bu,bB,cc,Q,bd⟩:=hqq9 av au aU (aq r aW) V a9 aa I ag;obtain ⟨ac,bf,a1,J,bo,b8⟩:=hqq6 a8 aM A q U aB;obtain ⟨E,bQ⟩:∃x,x=wr:=⟨_,rfl⟩;subst bQ;clear M aq ag am V a9 aa av au I aU a8 aM A q U c1;go_wp2_with fail;refine wp_region_any kR ?_;refine cD m 14 [29,30,31,32,33,34,35,36,37,38,39,40,41,42] (fun g=>g=d) 13 [13] (fun O=>Bk O d 3 #[(b7:Int)]) (fun _ O=>Bk O d 3 #[(x:Int)]) [is n,is n,is (e:Int),is n,is n,is (.pointer (some ⟨n,e,none⟩)),is (.slice (some G) B ae),is (c:Int),is (e:Int),is (r:Int),is (.pointer (some ⟨G,r*3,none⟩)),is (.agg #[.pointer (some ⟨ab r,0,none⟩),(e:Int),(r:Int)]),is (.func (.func 201) #[] #[d,y,s]),dA] _ _ rfl dC kR kR kR (bo.out) (fun w1 O f _ aw=>aw.1.bk f dC dC) (fun _ _ _ f aw=>aw.1.bk f dC dC) tA1 ?_ ?_
      · refine bG ?_;refine pH3 0 (.pointer (some n)) ?_;refine pH3 0 (.pointer (some n)) ?_;refine sC3 (fun o b a _ _ _ w _ _ _ _ j=>?_) ?_
        · replace a:VFB m (fun g=>g=d) E b:=fD a;have aF:o (.tmp 7)=.pointer (some s):=w 7 kR;have Z:b.cell? s=some (.int .i64 (e:Int)):=((a.1.bk a1.out dC dC (fun f=>absurd (show s=d from f) oM)).cell 0).trans rfl;go_simp;exact j _ _ (aH vR) rfl
        refine pV3 1 30 ?_;refine pV3 3 32 ?_;refine sC3 (fun _ _ _ _ _ _ _ l _ _ _ j=>?_) ?_
        · have cp:_=_:=l 4 33 kR rfl;have co:_=_:=l 2 31 kR rfl;have cF:(e:Int) < 9:=oM;go_simp;exact j _ _ (aH vR) rfl
        refine sC3 (fun _ b a _ _ _ _ l _ _ _ j=>?_) ?_
        · replace a:VFB m (fun g=>g=d) E b:=fD a;have cq:_=_:=l 5 34 kR rfl;obtain ⟨K,Y⟩:=a.1.waveC ac.out (fun f=>absurd (show n=d from f) oM);have bJ:b.cell? ⟨n,e,none⟩=some (.slice (some G) B ae):=(Y.cell e).trans ((sL S D K e a5).trans (congrArg some bd.out));go_simp;exact j _ _ (aH vR) rfl
        refine sC3 (fun o b a _ _ _ w _ _ _ _ j=>?_) ?_
        · replace a:VFB m (fun g=>g=d) E b:=fD a;have aE:o (.tmp 5)=.pointer (some y):=w 5 kR;have Z:b.cell? y=some (.int .i64 (c:Int)):=((a.1.bk J.out dC dC (fun f=>absurd (show y=d from f) oM)).cell 0).trans rfl;go_simp;exact j _ _ (aH vR) rfl
        refine sC3 (fun o b a _ _ _ w _ _ _ _ j=>?_) ?_
        · replace a:VFB m (fun g=>g=d) E b:=fD a;have aF:o (.tmp 7)=.pointer (some s):=w 7 kR;have Z:b.cell? s=some (.int .i64 (e:Int)):=((a.1.bk a1.out dC dC (fun f=>absurd (show s=d from f) oM)).cell 0).trans rfl;go_simp;exact j _ _ (aH vR) rfl
        refine sC3 (fun _ b _ _ _ _ _ l _ _ _ j=>?_) ?_
        · have cr:_=_:=l 7 36 kR rfl;have cs:_=_:=l 8 37 kR rfl;go_simp;refine (kK c e b X oM).mono ?_;rintro F b6 ⟨rfl,ai⟩;rw [bu.out];exact j _ _ (aH (VisK.of_below ai)) rfl
        refine pW3 6 35 9 38 ?_;refine sC3 (fun _ b a _ _ _ _ l _ _ _ j=>?_) ?_
        · replace a:VFB m (fun g=>g=d) E b:=fD a;have ct:_=_:=l 10 39 kR rfl;have ao:=aA bt.out fun g cg aj C=>a.1.bk C dC dC (fun f=>absurd (show g=d from f) (bp.out g aj));obtain ⟨c5,c6,c7⟩:=fJ ab e B r aW;have cd:b.cell? ⟨G,r*3,none⟩=_:=(World.ownsRow.cellAt ao (r*3) oM).trans c5;have ce:b.cell? ⟨G,r*3+1,none⟩=_:=(World.ownsRow.cellAt ao (r*3+1) oM).trans c6;have cf:b.cell? ⟨G,r*3+2,none⟩=_:=(World.ownsRow.cellAt ao (r*3+2) oM).trans c7;go_simp;exact j _ _ (aH vR) rfl
        refine sC3 (fun o _ _ _ _ _ w _ _ _ _ j=>?_) ?_
        · have aC:o (.tmp 4)=.pointer (some d):=w 4 kR;have aE:o (.tmp 5)=.pointer (some y):=w 5 kR;have aF:o (.tmp 7)=.pointer (some s):=w 7 kR;go_simp;exact j _ _ (aH vR) rfl
        refine sC3 (fun _ b a bO _ _ _ l _ _ _ j=>?_) ?_
        · replace a:VFB m (fun g=>g=d) E b:=fD a;have bY:=bO rfl;have cn:_=_:=l 0 29 kR rfl;have cu:_=_:=l 11 40 kR rfl;have cv:_=_:=l 12 41 kR rfl;go_simp;have b1:Vis v b:=(VisF.trans (VisF.of_vis Q.out.1) a.1).to_vis (fun g C F=>by have:g=d:=F;omega);obtain ⟨K,Y⟩:∃K,Bk b n 154 (wcells S D K):=b1.waveC az.out;have q:=a.1.bk J.out dC dC (fun f=>absurd (show y=d from f) oM);have A:=a.1.bk a1.out dC dC (fun f=>absurd (show s=d from f) oM);have bN:TabW b:=fun u a4=>(a.2.cell (p:=⟨1,u,none⟩) (by show 1 < E.heap.size;omega) (by show ¬(1=d∨m<=1);omega)).trans (bf.out u a4);refine (aGS m n (ab r) d y s S D K r e (aK k e r) x b7 c v b Y ay.out.2 b1 oM bY q A a5 X bC.out bF.out bN aJ bM ay.out.1 oM).mono ?_;rintro F b6 ⟨rfl,bR,bV,ai⟩;exact j _ _ (jK ⟨bR,bV.mono fun g _ f=>.inr f⟩) ai
        exact aD
      · intro o z bL a l aN;replace a:VFB m (fun g=>g=d) E z:=fD a;obtain ⟨c8,b4⟩:=aN 13 dC;have b3:(fun _ O=>Bk O d 3 #[(x:Int)]) c8 z:=b4;clear b4 aN;simp only [zqq];clear l;change wpAny prog Region.Mode.any _ _ (0+bL) (bX 14 14) _ z;refine bT kR ?_;have q:=a.1.bk J.out dC dC (fun f=>absurd (show y=d from f) oM);have A:=a.1.bk a1.out dC dC (fun f=>absurd (show s=d from f) oM);have b0:VB m v z:=⟨(VisF.trans (VisF.of_vis Q.out.1) a.1).to_vis (fun g C F=>by have:g=d:=F;omega),Q.out.2.trans (a.2.mono fun g _ f=>by rcases f with f | f;(have:g=d:=f;omega);exact f)⟩;have bZ:=a.1.size;have aB:z.cell? s=some (.int .i64 (e:Int)):=(A.cell 0).trans rfl;have cM:=A.lt;obtain ⟨bn,bl,bz⟩:=hqq3 q b3 b0;clear q A b0 a b3;go_wp2_with fail;refine ⟨⟨z.heap.size,e,(e:Int) - 1,by omega,rfl,rfl,Bk.new _ _ _,by rw [bB.out];exact bl.out.alloc _,bn.out.alloc _,bz.out.alloc _,by omega⟩,?_⟩;have c4:=((Bk.new z 3 #[.int .i64 ((e:Int) - 1)]).cell 0);rw [aCB (c4.trans rfl),aCB b8.out];omega
def aDf (w e g y o d a:Nat) (b:List (Nat×Nat)) (j:World) (f:j.ownsRow w 170 2 (.slice (some e) g y) g (bW b)) (k:a < b.length) (v:Bk j o 3 #[(d:Int)]) (K:aB b a<=1000000000000):
 Calls prog 156 #[.pointer (some ⟨e,a*2,none⟩),o] j fun I B=>I=.returned (.tuple #[])/\B.ownsRow w 170 2 (.slice (some e) g y) g (bW (b.set a (aW (aB b a) d,aI b a)))/\Keep (fun m=>m=e) j B:=by
 obtain ⟨z,A⟩:=cK b a k;have L:b.length=g:=by have J:=f.1;rw [dH] at J;omega
 have G:=(World.ownsRow.cellAt f (a*2) oM).trans z;have H:=(World.ownsRow.cellAt f (a*2+1) oM).trans A;have Y:j.cell? o=some (.int .i64 (d:Int)):=(v.cell 0).trans rfl;obtain ⟨Q,q⟩:=fL f;have U:=q.frozen (a*2);have V:=q.lt;have W:=v.lt;have l:=kU b a k;have u:=fun O=>kC b a O k;obtain ⟨c,t⟩:=eqx (aB b a);obtain ⟨M,s⟩:=eqx (aI b a);rw [t] at G l K;rw [s] at H l u;rw [t,s];obtain ⟨x,D,E⟩:=hqq3 f l u;clear f k v z A q l u L t s;by_cases X:d < c
 · have P:decide ((c:Int) > (d:Int))=true:=zBz oM;have T:IntKind.i64.wrap ((c:Int) - 1)=((c - 1:Nat):Int):=(by rw [IntKind.wrap_i64];omega);have r:=(World.ownsRow.stored x.out (a*2) (.int .i64 ((c - 1:Nat):Int))).1;rw [E.out] at r;have C:=lhd r;clear r;go_enter func156,ntmps156;go_wp2_with fail;go_quiet (fail);go_wp2_with fail;go_end0;refine ⟨rfl,?_,Keep.setCell (F:=fun m=>m=e) ((Keep.refl _ _).drewN _) (p:=⟨e,a*2,none⟩) (.inl rfl) _⟩;have n:aW (c) d=c - 1:=(by unfold aW;rw [zBx oM]);rw [n];exact C.out
 · have P:decide ((c:Int) > (d:Int))=false:=zBy oM;go_enter func156,ntmps156;go_wp2_with fail;go_quiet (fail);go_wp2_with fail;go_end0;refine ⟨rfl,?_,(Keep.refl _ _).drewN _⟩;have n:aW (c) d=c:=(by unfold aW;rw [zBw oM]);rw [n,D.out];exact x.out
def aDn (w e g y o d a:Nat) (b:List (Nat×Nat)) (j:World) (f:j.ownsRow w 170 2 (.slice (some e) g y) g (bW b)) (k:a < b.length) (v:Bk j o 3 #[(d:Int)]) (K:aI b a<=1000000000000):
 Calls prog 158 #[.pointer (some ⟨e,a*2,none⟩),o] j fun I B=>I=.returned (.tuple #[])/\B.ownsRow w 170 2 (.slice (some e) g y) g (bW (b.set a (aB b a,aW (aI b a) d)))/\Keep (fun m=>m=e) j B:=by
 obtain ⟨z,A⟩:=cK b a k;have L:b.length=g:=by have J:=f.1;rw [dH] at J;omega
 have G:=(World.ownsRow.cellAt f (a*2) oM).trans z;have H:=(World.ownsRow.cellAt f (a*2+1) oM).trans A;have Y:j.cell? o=some (.int .i64 (d:Int)):=(v.cell 0).trans rfl;obtain ⟨P,q⟩:=fL f;have T:=q.frozen (a*2+1);have U:=q.lt;have V:=v.lt;have l:=kU b a k;have u:=fun M=>mV b a M k;obtain ⟨X,t⟩:=eqx (aB b a);obtain ⟨c,s⟩:=eqx (aI b a);rw [t] at G l u;rw [s] at H l K;rw [t,s];obtain ⟨x,D,E⟩:=hqq3 f l u;clear f k v z A q l u L t s;by_cases W:d < c
 · have O:decide ((c:Int) > (d:Int))=true:=zBz oM;have Q:IntKind.i64.wrap ((c:Int) - 1)=((c - 1:Nat):Int):=(by rw [IntKind.wrap_i64];omega);have r:=(World.ownsRow.stored x.out (a*2+1) (.int .i64 ((c - 1:Nat):Int))).1;rw [E.out] at r;have C:=lhd r;clear r;go_enter func158,ntmps158;go_wp2_with fail;go_quiet (fail);go_wp2_with fail;go_end0;refine ⟨rfl,?_,Keep.setCell (F:=fun m=>m=e) ((Keep.refl _ _).drewN _) (p:=⟨e,a*2+1,none⟩) (.inl rfl) _⟩;have n:aW (c) d=c - 1:=(by unfold aW;rw [zBx oM]);rw [n];exact C.out
 · have O:decide ((c:Int) > (d:Int))=false:=zBy oM;go_enter func158,ntmps158;go_wp2_with fail;go_quiet (fail);go_wp2_with fail;go_end0;refine ⟨rfl,?_,(Keep.refl _ _).drewN _⟩;have n:aW (c) d=c:=(by unfold aW;rw [zBw oM]);rw [n,D.out];exact x.out
def yI (u q z Q p:Nat) (m J K I:Value) (R w:Nat) (c:List Nat) (f:List (Nat×Nat)) (H:List Bool) (y:List Nat) (r:World) (A:PermAt r u q z m J K I R w c f H y) (E:c.Nodup) (aN:c.length<=1000000) (aP:Bk r Q 3 #[(p:Int)]) (aM:∀d,m.ownBlock=some d->d≠Q) (af:∀a,a∈c->aB f a<=1000000000000/\aI f a<=1000000000000):
 Calls prog 118 #[q,.func (.func 156) #[] #[Q]] r fun k am=>k=.returned (.tuple #[])/\Keep (fun d=>m.ownBlock=some d) r am/\∃L,L.length=f.length/\(∀a,a∈c->(aB L a,aI L a)=(aW (aB f a) p,aI f a))/\PermAt am u q z m J K I R w c L H y:=by
 obtain ⟨an,aC,a8,_,_⟩:=aQ A.orow;have aD:r.cell? ⟨q,2,none⟩=some (.slice an c.length aC):=(A.blk.cell 2).trans (by rw [a8];rfl);have aY:=A.blk.lt;obtain ⟨G,a7⟩:=eqx c.length;rw [a7] at aD aN;obtain ⟨ao,a0,az,ax,ap⟩:=hqq5 A a7 a8 E af;clear A a7 a8 E af;go_enter func118,ntmps118;go_wp2_with fail;go_loopw [11] (fun i wr=>∃(g:Nat) (b:List (Nat×Nat)),g<=G/\i=.int .i64 (g:Int)/\b.length=f.length/\(∀a,a∈c.take g->(aB b a,aI b a)=(aW (aB f a) p,aI f a))/\(∀a,a∈c.drop g->(aB b a,aI b a)=(aB f a,aI f a))/\PermAt wr u q z m J K I R w c b H y/\Keep (fun d=>m.ownBlock=some d) r wr) (fun i _=>G -(intOf i).toNat)
 case atStart=>exact ⟨0,f,zAp _,rfl,rfl,fun a o=>by simp at o,fun a _=>rfl,ao.out,Keep.refl _ _⟩
 case round=>
  obtain ⟨g,b,b0,rfl,a6,U,V,e,o⟩:=hrel;by_cases ak:g < G
  · have B:g < c.length:=(by rw [a0.out];exact ak);obtain ⟨a,C⟩:∃a,c[g]?=some a:=⟨_,zAa B⟩;have a5:=zAd C;have a4:a < b.length:=e.lt a a5;have W:=e.orow;rw [az.out] at W;obtain ⟨aG,b3,aF,_,aX⟩:=World.ownsRow.form W oM;injection aF with e2a _ e2c;subst e2a e2c;have D:=e.lrow;obtain ⟨P,al,O,_,aV⟩:=World.ownsRow.form D oM;rw [O] at D;have aE:wr.cell? ⟨aG,g,none⟩=some (.int .i64 (a:Int)):=(World.ownsRow.cellAt W g oM).trans (by rw [zAf,C];rfl);have ae:wr.cell? ⟨q,1,none⟩=some (.slice (some P) b.length al):=(e.blk.cell 1).trans (by rw [O];rfl);have aZ:=e.blk.lt;have b2:=o.size;have ai:a∈c.drop g:=(by rw [zAx B,List.getElem_eq_getElem?_get];simp [C]);have aH:(aB b a,aI b a)=(aB f a,aI f a):=V a ai;injection aH with hCr hCp;have aS:=fun (d:Nat) (k:Value.ownBlock m=some d)=>(World.ownsRow.lt e.lrow d k).2;obtain ⟨N,a2⟩:=eqx b.length;rw [a2] at D ae a4;have aT:=o.bk aP (fun k=>aM _ k rfl);have b1:(a:Int) < (N:Int):=oM;obtain ⟨a1,Z,ad,ac,Y,au,M,aw,ab⟩:=hqq9 e o D C U V a2 a6 O;obtain ⟨aa,aq,av⟩:=hqq3 hCr hCp a5;clear e o D C U V a2 a6 O hCr hCp a5 ai W aS;go_wp2_with fail;refine (aDf u P N al Q p a b wr ad.out (by rw [M.out];exact a4) aT (by rw [aa.out];exact (ap.out a av.out).1)).mono ?_;rintro k w1 ⟨rfl,aj,t⟩
    have ag:PermAt w1 u q z m J K I R w c (b.set a (aW (aB b a) p,aI b a)) H y:=by
        have e:=a1.out;have F:∀d a9 x,a9≠170->Bk wr d a9 x->d≠P:=fun d a9 x aO n k=>by subst k;obtain ⟨aU,aJ⟩:=fL ad.out;exact aO (aL n aJ).1
        refine ⟨t.bk e.blk (F _ _ _ dC e.blk),?_,aA e.orow fun d x _ n=>t.bk n (F _ _ _ dC n),t.bk e.ar (F _ _ _ dC e.ar),aA e.trow fun d x _ n=>t.bk n (F _ _ _ dC n),aA e.frow fun d x _ n=>t.bk n (F _ _ _ dC n),e.apart,fun j l=>by rw [zAt];exact e.lt j l,e.lo⟩;rw [zAt,M.out,ab.out,M.out];exact aj
    have ah:Keep (fun d=>m.ownBlock=some d) r w1:=Z.out.trans (t.mono fun d _ k=>by rw [ab.out,show d=P from k];rfl)
    have a3:∀j,(aB (b.set a (aW (aB b a) p,aI b a)) j,aI (b.set a (aW (aB b a) p,aI b a)) j)=if j=a then (aW (aB b a) p,aI b a) else (aB b j,aI b j):=fun j=>by
        unfold aB aI;rw [zAb,zBm];by_cases s:a=j;subst s;rw [zBx rfl,zBx rfl,zBx (by rw [M.out];exact a4)];rfl
        · rw [zBw s,zBw (fun k=>s k.symm),zAb]
    have hrel:∃(X:Nat) (v:List (Nat×Nat)),X<=G/\Value.int .i64 ((g+1:Nat):Int)=.int .i64 (X:Int)/\v.length=f.length/\(∀a,a∈c.take X->(aB v a,aI v a)=(aW (aB f a) p,aI f a))/\(∀a,a∈c.drop X->(aB v a,aI v a)=(aB f a,aI f a))/\PermAt w1 u q z m J K I R w c v H y/\Keep (fun d=>m.ownBlock=some d) r w1:=by
        refine ⟨g+1,_,by omega,rfl,by rw [zAt];exact aw.out,fun j l=>?_,fun j l=>?_,ag,ah⟩
        · rw [a3];by_cases s:j=a
          · subst s;rw [zBx rfl,aa.out,aq.out]
          rw [zBw s];refine Y.out j ?_;rw [zAv,ac.out] at l;simp at l;rcases l with l | l;exact l;exact absurd l s
        · rw [a3];have aR:j≠a:=fun k=>by subst k;have aK:c.drop g=j::c.drop (g+1):=(by have B:g < c.length:=(by rw [a0.out];exact ak);rw [zAx B];have T:=ac.out;rw [zAa B] at T;injection T with T;rw [T]);have E:=(List.drop_sublist g c).nodup ax.out;rw [aK,List.nodup_cons] at E;exact E.1 l
          rw [zBw aR];exact au.out j (List.mem_of_mem_drop (by rw [<-List.drop_drop] at l;exact l:j∈(c.drop g).drop 1))
    have ay:=lhd hrel;clear ag ah a3 hrel t aj ae aE;go_wp2_with fail;go_roundw
    case rel=>exact ay.out
    case measure=>simp [intOf];omega
  · obtain rfl:g=G:=oM;obtain ⟨a1,Z,Y⟩:=hqq3 e o U;clear e o U V;go_wp2_with fail;go_end0;refine ⟨rfl,Z.out,b,a6,fun a o=>Y.out a ?_,a1.out⟩;rw [zAg (by rw [a0.out];exact zAs _)];exact o
def yJ (u q z Q p:Nat) (m J K I:Value) (R w:Nat) (c:List Nat) (f:List (Nat×Nat)) (H:List Bool) (y:List Nat) (r:World) (A:PermAt r u q z m J K I R w c f H y) (E:c.Nodup) (aN:c.length<=1000000) (aP:Bk r Q 3 #[(p:Int)]) (aM:∀d,m.ownBlock=some d->d≠Q) (af:∀a,a∈c->aB f a<=1000000000000/\aI f a<=1000000000000):
 Calls prog 118 #[q,.func (.func 158) #[] #[Q]] r fun k am=>k=.returned (.tuple #[])/\Keep (fun d=>m.ownBlock=some d) r am/\∃L,L.length=f.length/\(∀a,a∈c->(aB L a,aI L a)=(aB f a,aW (aI f a) p))/\PermAt am u q z m J K I R w c L H y:=by
 obtain ⟨an,aC,a8,_,_⟩:=aQ A.orow;have aD:r.cell? ⟨q,2,none⟩=some (.slice an c.length aC):=(A.blk.cell 2).trans (by rw [a8];rfl);have aY:=A.blk.lt;obtain ⟨G,a7⟩:=eqx c.length;rw [a7] at aD aN;obtain ⟨ao,a0,az,ax,ap⟩:=hqq5 A a7 a8 E af;clear A a7 a8 E af;go_enter func118,ntmps118;go_wp2_with fail;go_loopw [11] (fun i wr=>∃(g:Nat) (b:List (Nat×Nat)),g<=G/\i=.int .i64 (g:Int)/\b.length=f.length/\(∀a,a∈c.take g->(aB b a,aI b a)=(aB f a,aW (aI f a) p))/\(∀a,a∈c.drop g->(aB b a,aI b a)=(aB f a,aI f a))/\PermAt wr u q z m J K I R w c b H y/\Keep (fun d=>m.ownBlock=some d) r wr) (fun i _=>G -(intOf i).toNat)
 case atStart=>exact ⟨0,f,zAp _,rfl,rfl,fun a o=>by simp at o,fun a _=>rfl,ao.out,Keep.refl _ _⟩
 case round=>
  obtain ⟨g,b,b0,rfl,a6,U,V,e,o⟩:=hrel;by_cases ak:g < G
  · have B:g < c.length:=(by rw [a0.out];exact ak);obtain ⟨a,C⟩:∃a,c[g]?=some a:=⟨_,zAa B⟩;have a5:=zAd C;have a4:a < b.length:=e.lt a a5;have W:=e.orow;rw [az.out] at W;obtain ⟨aG,b3,aF,_,aX⟩:=World.ownsRow.form W oM;injection aF with e2a _ e2c;subst e2a e2c;have D:=e.lrow;obtain ⟨P,al,O,_,aV⟩:=World.ownsRow.form D oM;rw [O] at D;have aE:wr.cell? ⟨aG,g,none⟩=some (.int .i64 (a:Int)):=(World.ownsRow.cellAt W g oM).trans (by rw [zAf,C];rfl);have ae:wr.cell? ⟨q,1,none⟩=some (.slice (some P) b.length al):=(e.blk.cell 1).trans (by rw [O];rfl);have aZ:=e.blk.lt;have b2:=o.size;have ai:a∈c.drop g:=(by rw [zAx B,List.getElem_eq_getElem?_get];simp [C]);have aH:(aB b a,aI b a)=(aB f a,aI f a):=V a ai;injection aH with hCr hCp;have aS:=fun (d:Nat) (k:Value.ownBlock m=some d)=>(World.ownsRow.lt e.lrow d k).2;obtain ⟨N,a2⟩:=eqx b.length;rw [a2] at D ae a4;have aT:=o.bk aP (fun k=>aM _ k rfl);have b1:(a:Int) < (N:Int):=oM;obtain ⟨a1,Z,ad,ac,Y,au,M,aw,ab⟩:=hqq9 e o D C U V a2 a6 O;obtain ⟨aq,aa,av⟩:=hqq3 hCr hCp a5;clear e o D C U V a2 a6 O hCr hCp a5 ai W aS;go_wp2_with fail;refine (aDn u P N al Q p a b wr ad.out (by rw [M.out];exact a4) aT (by rw [aa.out];exact (ap.out a av.out).2)).mono ?_;rintro k w1 ⟨rfl,aj,t⟩
    have ag:PermAt w1 u q z m J K I R w c (b.set a (aB b a,aW (aI b a) p)) H y:=by
        have e:=a1.out;have F:∀d a9 x,a9≠170->Bk wr d a9 x->d≠P:=fun d a9 x aO n k=>by subst k;obtain ⟨aU,aJ⟩:=fL ad.out;exact aO (aL n aJ).1
        refine ⟨t.bk e.blk (F _ _ _ dC e.blk),?_,aA e.orow fun d x _ n=>t.bk n (F _ _ _ dC n),t.bk e.ar (F _ _ _ dC e.ar),aA e.trow fun d x _ n=>t.bk n (F _ _ _ dC n),aA e.frow fun d x _ n=>t.bk n (F _ _ _ dC n),e.apart,fun j l=>by rw [zAt];exact e.lt j l,e.lo⟩;rw [zAt,M.out,ab.out,M.out];exact aj
    have ah:Keep (fun d=>m.ownBlock=some d) r w1:=Z.out.trans (t.mono fun d _ k=>by rw [ab.out,show d=P from k];rfl)
    have a3:∀j,(aB (b.set a (aB b a,aW (aI b a) p)) j,aI (b.set a (aB b a,aW (aI b a) p)) j)=if j=a then (aB b a,aW (aI b a) p) else (aB b j,aI b j):=fun j=>by
        unfold aB aI;rw [zAb,zBm];by_cases s:a=j;subst s;rw [zBx rfl,zBx rfl,zBx (by rw [M.out];exact a4)];rfl
        · rw [zBw s,zBw (fun k=>s k.symm),zAb]
    have hrel:∃(X:Nat) (v:List (Nat×Nat)),X<=G/\Value.int .i64 ((g+1:Nat):Int)=.int .i64 (X:Int)/\v.length=f.length/\(∀a,a∈c.take X->(aB v a,aI v a)=(aB f a,aW (aI f a) p))/\(∀a,a∈c.drop X->(aB v a,aI v a)=(aB f a,aI f a))/\PermAt w1 u q z m J K I R w c v H y/\Keep (fun d=>m.ownBlock=some d) r w1:=by
        refine ⟨g+1,_,by omega,rfl,by rw [zAt];exact aw.out,fun j l=>?_,fun j l=>?_,ag,ah⟩
        · rw [a3];by_cases s:j=a
          · subst s;rw [zBx rfl,aq.out,aa.out]
          rw [zBw s];refine Y.out j ?_;rw [zAv,ac.out] at l;simp at l;rcases l with l | l;exact l;exact absurd l s
        · rw [a3];have aR:j≠a:=fun k=>by subst k;have aK:c.drop g=j::c.drop (g+1):=(by have B:g < c.length:=(by rw [a0.out];exact ak);rw [zAx B];have T:=ac.out;rw [zAa B] at T;injection T with T;rw [T]);have E:=(List.drop_sublist g c).nodup ax.out;rw [aK,List.nodup_cons] at E;exact E.1 l
          rw [zBw aR];exact au.out j (List.mem_of_mem_drop (by rw [<-List.drop_drop] at l;exact l:j∈(c.drop g).drop 1))
    have ay:=lhd hrel;clear ag ah a3 hrel t aj ae aE;go_wp2_with fail;go_roundw
    case rel=>exact ay.out
    case measure=>simp [intOf];omega
  · obtain rfl:g=G:=oM;obtain ⟨a1,Z,Y⟩:=hqq3 e o U;clear e o U V;go_wp2_with fail;go_end0;refine ⟨rfl,Z.out,b,a6,fun a o=>Y.out a ?_,a1.out⟩;rw [zAg (by rw [a0.out];exact zAs _)];exact o
end
end Go.Proofs.YthldmddkfbijhaaGreatDoor
