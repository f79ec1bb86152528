/- Lemmas of the walk. Conditions: each its own. -/
import Derived.Test.YthldmddkfbijhaaGreatDoorPsl12
import Derived.Test.YthldmddkfbijhaaGreatDoorPsl13
import Derived.Test.YthldmddkfbijhaaGreatDoorPsl14
import Derived.Test.YthldmddkfbijhaaGreatDoorProg
import Derived.Test.YthldmddkfbijhaaGreatDoorShl
import Derived.Test.YthldmddkfbijhaaGreatDoorShi
set_option linter.all false
set_option maxRecDepth 100000
set_option maxHeartbeats 4000000
open Go.Proofs.Tryz
namespace Go.Proofs.YthldmddkfbijhaaGreatDoor
section
open Go.RowKit Go.Shelf
open Go.Sort (Holds)
def zI (m gp:Nat) (q:Option Addr) (E r:Nat) (C:List (Nat×Nat)) (e f:Nat) (a:World) (d:PRd a m gp q E r C) (x:e < C.length) (y:f < C.length):
 Calls prog 174 #[(e:Int),(f:Int),m] a fun g w'=>g=.returned (.int .i64 (Lib.compareInt ((aB C e:Nat):Int) ((aB C f:Nat):Int)))/\∃b,w'=a.drewN b:=by
 obtain ⟨M,I,Q,rfl,s,t⟩:=d.at x;obtain ⟨O,b1,U,c,u,v⟩:=d.at y;injection c with c;injection c with c e2;subst c e2;have J:=d.box;have K:=d.sl;obtain ⟨k,o⟩:=eqx (aB C e);obtain ⟨l,p⟩:=eqx (aB C f);rw [o] at s⊢;rw [p] at u⊢;obtain ⟨H,i⟩:=eqx (Lib.compareInt (k:Int) (l:Int));have D:∀b:Nat,Calls prog 175 #[(k:Int),(l:Int)] (a.drewN b) fun g w'=>g=.returned (.int .i64 H)/\∃G,w'=a.drewN G:=fun b=>by have n:=AnyG.cmp_Compare_int shCmp (k:Int) (l:Int) (a.drewN b);rw [i] at n;exact Calls.mono n fun _ _ ⟨z,A⟩=>⟨z,b,A⟩
 rw [i];clear d t v o p i;go_enter func174,ntmps174;go_wp2_with fail;go_quiet ((with_reducible exact D _));go_wp2_with fail;go_ret;exact ⟨rfl,_,rfl⟩
def aJh {b g f d:Nat} (a:mvR b g f=mvR b g d):f=d:=by
 unfold mvR inR aW at a;by_cases e:f=b
 · by_cases c:d=b;omega
   · rw [zBx e,zBw c] at a;split at a <;> split at a <;> omega
 · by_cases c:d=b
   · rw [zBw e,zBx c] at a;split at a <;> split at a <;> omega
   · rw [zBw e,zBw c] at a;split at a <;> split at a <;> split at a <;> split at a <;> omega
def aJ6 {a c b R:Nat} (e:a < R) (d:c < R) (f:b < R):mvR a c b < R:=by
 unfold mvR inR aW;split;exact d
 · split <;> split <;> omega
def PermX.drewN {w:World} {F:Nat->Prop} {gp ga:Nat} {vl vo vt vf:Value} {R P:Nat} {ks:List Nat} {C:List (Nat×Nat)} {tk:List Bool} {fr:List Nat} (a:PermX w F gp ga vl vo vt vf R P ks C tk fr) (b:Nat):PermX (w.drewN b) F gp ga vl vo vt vf R P ks C tk fr:=
 { a with at_:=a.at_.below (below_drewN bR _)}
def PermX.sorted {w w':World} {F:Nat->Prop} {gp ga:Nat} {vl vo vt vf:Value} {R P:Nat} {ks m:List Nat} {C:List (Nat×Nat)} {tk:List Bool} {fr:List Nat} (g:PermX w F gp ga vl vo vt vf R P ks C tk fr) (k:m.Perm ks) (f:Keep (fun c=>vo.ownBlock=some c) w w') (r:w'.ownsRow 0 3 1 vo ks.length (m.map sv)):PermX w' F gp ga vl vo vt vf R P m C tk fr:=by
 have a:=g.at_;have i:∀c n d,Bk w c n d->n≠3->¬(vo.ownBlock=some c):=fun c n d b s e=>by obtain ⟨u,p⟩:=eW a.orow e;exact s (aL b p).1
 refine { g with at_:=⟨f.bk a.blk (i _ _ _ a.blk dC),aA a.lrow fun c d _ b=>f.bk b (i _ _ _ b dC),by rw [k.length_eq];exact r,f.bk a.ar (i _ _ _ a.ar dC),aA a.trow fun c d _ b=>f.bk b (i _ _ _ b dC),aA a.frow fun c d b q=>f.bk q fun e=>?_,a.apart,fun o t=>a.lt o (k.subset t),a.lo⟩,nd:=k.nodup_iff.2 g.nd,tkk:=fun o=>(g.tkk o).trans k.mem_iff.symm };rcases a.apart with l | l
 · rw [l] at e;cases e
 exact l (e.trans b.symm)
def aBH (F:Nat->Prop) (gp ga o R P:Nat) (vl vo vt vf:Value) (ks:List Nat) (C:List (Nat×Nat)) (tk:List Bool) (fr:List Nat) (w:World) (p:PermX w F gp ga vl vo vt vf R P ks C tk fr) (z:Bk w o 90 #[gp]) (ae:ks≠ []) (aa:∀s∈ks,∀t∈ks,aB C s=aB C t->s=t):
 ∃M n,vo=.slice M ks.length n/\Calls prog 147 #[.slice M ks.length n,.func (.func 174) #[] #[o]] w fun i w'=>i=.returned (.tuple #[])/\∃I,I.Perm ks/\I.Pairwise (fun b d=>aB C b < aB C d)/\PermX w' F gp ga vl vo vt vf R P I C tk fr/\Keep F w w':=by
 have H:0 < ks.length:=List.length_pos_iff.2 ae;have b:=p.at_;obtain ⟨g,n,i,_,G⟩:=World.ownsRow.form b.orow H;refine ⟨_,n,i,?_⟩;have X:=b.orow;rw [i] at X;obtain ⟨am,E,a7,ad,ac,ao,a5⟩:=sT X H;obtain ⟨k0,ab⟩:∃e,e∈ks:=List.exists_mem_of_length_pos H;obtain ⟨a,D⟩:∃a,C.length=a+1:=⟨C.length - 1,by have:=b.lt k0 ab;omega⟩;have W:∀e∈ks,e < a+1:=fun e l=>by rw [<-D];exact b.lt e l
 have r:(fO a ks).size=ks.length:=by simp [fO]
 have a3:=pG (c:=a) E W (gK (by simp) oM a5);obtain ⟨O,a1,Q,y,aq⟩:=b.prd (z.cell 0) (Below.refl w.heap.size w);have a6:CmpReads prog 174 #[o] (fA a) (cfK a (aB C)) g 0 (fO a ks).size w:=fun J m x ap s t=>by
  have e:=jE (enc:=fA a) (w:=w) G 0 J x m;have A:∀d K u,Bk w d K u->K≠3->¬(d=g):=fun d K u a4 aj q=>by subst q;exact aj (aL a4 E).1
  have ag:PRd (sortWorld (fA a) w g 0 J x m) o gp O a1 Q C:=by refine ⟨((e.bk z (A _ _ _ z dC)).cell 0).trans rfl,((e.bk b.blk (A _ _ _ b.blk dC)).cell 1).trans (by rw [y];rfl),?_⟩;have V:=aA (w':=sortWorld (fA a) w g 0 J x m) b.lrow fun d u _ l=>e.bk l (A _ _ _ l dC);rw [y] at V;have a2:=aQ b.lrow;obtain ⟨ak,al,U,_⟩:=a2;rw [y] at U;injection U with e81 e82 e83;subst e82;exact Rd.of_own V
  exact zI o gp O a1 Q C s.val t.val _ ag (by rw [D];exact s.isLt) (by rw [D];exact t.isLt)
 have a0:=Any.slices_SortFunc shSort (fA a) (lO a) (cfK a (aB C)) (aIV a (aB C)) 174 #[o] g 0 n (fO a ks) w (enters_of func174 kR rfl) a6.lays a3 G (by rw [r];have:=gS p.nd b.lt;have:=p.sz;omega);rw [r] at a0;refine a0.mono ?_;rintro an w' ⟨rfl,v,nq,m,Z,ai,rfl⟩;obtain ⟨Y,ah⟩:=aB8 (f:=aB C) W (by rw [r];exact Z) (by rw [r];exact ai) p.nd aa;have a8:v.size=ks.length:=by rw [Z.1,r]
 have l:=jE (enc:=fA a) (w:=w) G 0 nq v m;have af:=aHm (base:=0) (k:=nq) (os:=m) v a8 E (zAp _) ad ac a7;have a9:F g:=p.fo g (by rw [i];rfl);exact ⟨rfl,_,Y,ah,p.sorted Y (l.mono fun d _ q=>by rw [i,show d=g from q];rfl) (by rw [i];exact af),l.mono fun d _ q=>by rw [show d=g from q];exact a9⟩
def cM (F:Nat->Prop) (gp R P b c:Nat) (pr:List (Nat×Nat)) (w:World) (aw:PermE w F gp R P pr) (aA:b < R) (aC:c < R) (aO:R<=100000) (aN:P<=100000) (ac:pr≠ []):
 Calls prog 122 #[gp,(b:Int),(c:Int)] w fun f w'=>f=.returned (.int .i64 0)/\(∃pr',pr'.Perm (pr.map fun e=>(mvR b c e.1,e.2))/\PermE w' F gp R P pr')/\Keep F w w':=by
 obtain ⟨⟨ga,vl,vo,vt,vf,ks,C,tk,fr,l,rfl⟩,af,a2⟩:=aw;have v:=l.at_;have ab:ks≠ []:=fun f=>ac (by rw [f];rfl);have aP:=v.blk.lt;have aT:decide ((b:Int) < 0)=false:=by simp
 have aU:decide ((c:Int) < 0)=false:=by simp
 have aV:¬R<=b:=oM;have aW:¬R<=c:=oM;have aX:¬(b:Int)>=(R:Int):=oM;have aY:¬(c:Int)>=(R:Int):=oM;obtain ⟨w1,p⟩:=eqx (((w.alloc (.cells #[gp] 90)).alloc (.cells #[(b:Int)] 3)).alloc (.cells #[(c:Int)] 3));have G:Below w.heap.size w w1:=by rw [<-p];exact ((bR.alloc nL _).alloc (by simp) _).alloc (by simp;omega) _
 have y:Bk w1 w.heap.size 90 #[gp]:=by rw [<-p];exact ((Bk.new w _ _).alloc _).alloc _
 have z:Bk w1 (w.heap.size+1) 3 #[(b:Int)]:=by rw [<-p];have:=(Bk.new (w.alloc (.cells #[gp] 90)) 3 #[(b:Int)]).alloc (.cells #[(c:Int)] 3);simpa using this
 have A:Bk w1 (w.heap.size+2) 3 #[(c:Int)]:=by rw [<-p];have:=Bk.new ((w.alloc (.cells #[gp] 90)).alloc (.cells #[(b:Int)] 3)) 3 #[(c:Int)];simpa using this
 have x:PermX w1 F gp ga vl vo vt vf R P ks C tk fr:= { l with at_:=v.below G };have ag:∀g,vl.ownBlock=some g->g < w.heap.size:=fun g n=>(v.lrow.lt g n).2;have aE:∀m,(w1.drewN m).cell? w.heap.size=some (.pointer (some gp)):=fun m=>(y.cell 0).trans rfl;have aF:∀m,(w1.drewN m).cell? ⟨w.heap.size+1,0,none⟩=some (.int .i64 (b:Int)):=fun m=>(z.cell 0).trans rfl;have aG:∀m,(w1.drewN m).cell? ⟨w.heap.size+2,0,none⟩=some (.int .i64 (c:Int)):=fun m=>(A.cell 0).trans rfl;have aJ:w1.cell? w.heap.size=some (.pointer (some gp)):=(y.cell 0).trans rfl;have aK:w1.cell? ⟨w.heap.size+1,0,none⟩=some (.int .i64 (b:Int)):=(z.cell 0).trans rfl;have aL:w1.cell? ⟨w.heap.size+2,0,none⟩=some (.int .i64 (c:Int)):=(A.cell 0).trans rfl;have aH:w1.cell? ⟨gp,3,none⟩=some (.int .i64 (R:Int)):=(x.at_.blk.cell 3).trans rfl;have aQ:=x.at_.blk.lt;have Z:∀a,a∈ks->aB C a < R/\aI C a < P:=fun a i=>a2 (aB C a,aI C a) (zAy.2 ⟨a,i,rfl⟩);have a6:∀e∈ks,∀r∈ks,aB C e=aB C r->e=r:=fun e az r D f=>by have ae:=List.pairwise_map.1 af;obtain ⟨s,a5,rfl⟩:=List.getElem_of_mem az;obtain ⟨j,a7,rfl⟩:=List.getElem_of_mem D;rcases Nat.lt_trichotomy s j with k | k | k;have ax:aB C ks[s] < aB C ks[j]:=zAr.1 ae s j a5 a7 k;omega;subst k;rfl;have ax:aB C ks[j] < aB C ks[s]:=zAr.1 ae j s a7 a5 k;omega
 obtain ⟨d,Q,ao,aj,ak,al,am,ar,E⟩:=hqq9 x Z a6 G y z A p ag;have aq:=lhd ab;clear l v af a2 x Z a6 G y z A p ag ab ac;go_enter func122,ntmps122;go_wp2_with fail;rw [ar.out];go_quiet (fail)
 rename_i nq
 have aS:∀(Y:Fn) (first W:Array Value) (w:World),(Instr.makeFunc Y first W).run prog w=.ok (.func Y first W) w:=fun _ _ _ _=>rfl;go_wp2_with fail;have o:=d.out.drewN nq;have ay:=gS o.nd o.at_.lt;refine (uL 0 gp ga (w.heap.size+1) (w.heap.size+2) b c vl vo vt vf R P ks C tk fr _ o.at_ o.nd (by have:=o.sz;omega) (al.out.drewN nq) (fun g n f=>by have:=E.out g n;omega) (am.out.drewN nq) (fun g n f=>by have:=E.out g n;omega) (fun a i=>by have:=Q.out a i;omega)).mono ?_;rintro f q ⟨rfl,J,t,K,I,a1⟩;have O:∀a,a∈ks->aB t a=mvR b c (aB C a):=fun a i=>(Prod.mk.inj (I a i)).1;have u:PermX q F gp ga vl vo vt vf R P ks t tk fr:=⟨a1,d.out.fp,d.out.fa,d.out.fl,d.out.fo,d.out.ft,d.out.ff,d.out.nd,by rw [K];exact d.out.tkl,d.out.tkk,d.out.frn,d.out.frk,by rw [K];exact d.out.sz⟩;have H:Bk q w.heap.size 90 #[gp]:=J.bk (ak.out.drewN nq) fun f=>by have:=E.out _ f;omega
 have a9:Keep F w q:=(Keep.of_below (below_drewN aj.out nq)).trans (J.mono fun g _ n=>d.out.fl g n);obtain ⟨ai,av,X,a3⟩:=aBH F gp ga w.heap.size R P vl vo vt vf ks t tk fr q u H aq.out (fun e l r D f=>ao.out e l r D (aJh (by rw [<-O e l,<-O r D,f])));have au:q.cell? ⟨gp,2,none⟩=some (.slice ai ks.length av):=(u.at_.blk.cell 2).trans (by rw [X];rfl);have aM:q.cell? w.heap.size=some (.pointer (some gp)):=(H.cell 0).trans rfl;have aR:=u.at_.blk.lt;obtain ⟨ap,U,an⟩:=hqq3 a9 I a3;clear a9 I a3 u H J K a1 O o ay aJ aK aL aE aF aG aH X;go_wp2_with fail;refine an.out.mono ?_;rintro f ah ⟨rfl,aD,M,ad,a0,a8⟩;have a4:(∃pr',pr'.Perm ((ks.map fun a=>(aB C a,aI C a)).map fun e=>(mvR b c e.1,e.2))/\PermE ah F gp R P pr')/\Keep F w ah:=by refine ⟨⟨_,?_,⟨ga,vl,vo,vt,vf,aD,t,tk,fr,a0,rfl⟩,List.pairwise_map.2 ad,fun e l=>?_⟩,ap.out.trans a8⟩;refine (M.map _).trans ?_;rw [zCh];refine List.Perm.of_eq (List.map_congr_left fun a i=>?_);exact U.out a i;obtain ⟨a,i,rfl⟩:=zAy.1 l;have aa:=M.subset i;have k:=Q.out a aa;rw [U.out a aa];exact ⟨aJ6 aA aC k.1,k.2⟩
 have V:=lhd a4;clear a4 a0 a8 M ad au aM;go_wp2_with fail;go_ret;exact ⟨rfl,V.out.1,V.out.2⟩
end
section
open Go.RowKit Go.Shelf
def oP:∀ {l m:List Nat},l.Nodup->(∀a∈l,a∈m)->l.length<=m.length
 | [],m,_,_=>zAp _
 | a::l,m,hn,hs=>by
   obtain ⟨f,g⟩:=List.nodup_cons.1 hn;have b:=hs a (by simp);have:=oP (l:=l) (m:=m.erase a) g fun d c=>by have i:d≠a:=fun e=>f (by rw [<-e];exact c);exact (List.mem_erase_of_ne i).2 (hs d (by simp [c]))
   have k:=List.length_erase_of_mem b;have n:=List.length_pos_of_mem b;rw [zCg];omega
def aEt {a:List Nat} {f:Nat->Nat} (k:a.Pairwise (fun e g=>f e < f g)) (d:Nat) (p:∀b∈a,f b≠f d):(aP a (a.countP fun b=>decide (f b < f d)) d).Pairwise (fun e g=>f e < f g):=by
 unfold aP;have m:=fun (j b:Nat) (i:a[j]?=some b)=>aEH k (f d) j b i;obtain ⟨c,o⟩:∃c,(a.countP fun b=>decide (f b < f d))=c:=⟨_,rfl⟩;rw [o] at m⊢;rw [List.pairwise_append];refine ⟨k.sublist (List.take_sublist c a),List.pairwise_cons.2 ⟨fun b l=>?_,k.sublist (List.drop_sublist c a)⟩,fun b l r n=>?_⟩;obtain ⟨j,i,rfl⟩:=List.getElem_of_mem l;rw [zAw] at i;rw [List.getElem_drop];have s:=m (c+j) a[c+j] (zAa oM);have t:=p a[c+j] (zBj oM);omega;have q:f b < f d:=(by obtain ⟨j,i,rfl⟩:=List.getElem_of_mem l;rw [zAj] at i;rw [List.getElem_take];exact (m j a[j] (zAa oM)).2 oM);rcases List.mem_cons.1 n with rfl | n;exact q;have:=List.pairwise_append.1 (show (a.take c++a.drop c).Pairwise (fun e g=>f e < f g) by rw [zAu];exact k);exact this.2.2 b l r n
def aCR (tk:List Bool) (a:Nat) (b:Bool):(tk++ [true])[a]?=some b↔tk[a]?=some b∨(a=tk.length/\b=true):=by
 by_cases e:a < tk.length;rw [zAn e];constructor;exact .inl;rintro (d |⟨d,_⟩);exact d;omega
 · rw [zAo oM,zBg (show tk.length<=a by omega)];by_cases c:a=tk.length
   · subst c;cases b <;> simp
   · rw [zBg (by simp;omega)];simp [c]
def AF (ga:Nat) (vt vf:Value) (a:Nat):Prop:=a=ga∨vt.ownBlock=some a∨vf.ownBlock=some a
section
variable {w : World} {F : Nat -> Prop} {gp ga : Nat} {vl vo vt vf : Value} {R P : Nat} {ks : List Nat} {C : List (Nat × Nat)} {tk : List Bool} {fr : List Nat}
def PermX.arena (l:PermX w F gp ga vl vo vt vf R P ks C tk fr):ArenaE w (AF ga vt vf) ga tk fr:=by
 have a:=l.at_;obtain ⟨d,g,i,_⟩:=aQ a.trow;obtain ⟨c,f,k,_⟩:=aQ a.frow;subst i k;exact ⟨.inl rfl,d,g,c,f,a.ar,cB a.trow (zAp _),cB a.frow (zAp _),fun e b=>.inr (.inl b),fun e b=>.inr (.inr b)⟩
def PermX.af (c:PermX w F gp ga vl vo vt vf R P ks C tk fr) {b:Nat} (a:AF ga vt vf b):F b:=by
 rcases a with rfl | a | a;exact c.fa;exact c.ft b a;exact c.ff b a
def PermX.af_lt (c:PermX w F gp ga vl vo vt vf R P ks C tk fr) {b:Nat} (a:AF ga vt vf b):b < w.heap.size:=by
 rcases a with rfl | a | a;exact c.at_.ar.lt;exact (c.at_.trow.lt b a).2;exact (c.at_.frow.lt b a).2
def PermX.gp_af (e:PermX w F gp ga vl vo vt vf R P ks C tk fr):¬AF ga vt vf gp:=by
 have a:=e.at_;rintro (b | b | b);exact Bk.ne a.blk a.ar dC b;obtain ⟨d,c⟩:=eW a.trow b;exact absurd (aL c a.blk).1 dC;obtain ⟨d,c⟩:=eW a.frow b;exact absurd (aL c a.blk).1 dC
def PermX.pair_af (i:PermX w F gp ga vl vo vt vf R P ks C tk fr) {e:Nat} {f:Array Value} (c:Bk w e 170 f):¬AF ga vt vf e:=by
 have b:=i.at_;rintro (a | a | a);exact Bk.ne c b.ar dC a;obtain ⟨g,d⟩:=eW b.trow a;exact absurd (aL d c).1 dC;obtain ⟨g,d⟩:=eW b.frow a;exact absurd (aL d c).1 dC
def PermX.ord_af (g:PermX w F gp ga vl vo vt vf R P ks C tk fr) {e:Nat} (c:vo.ownBlock=some e):¬AF ga vt vf e:=by
 have b:=g.at_;obtain ⟨k,f⟩:=eW b.orow c;rintro (a | a | a);exact Bk.ne f b.ar dC a;obtain ⟨l,i⟩:=eW b.trow a;exact absurd (aL f i).1 dC
 · rcases b.apart with d | d
   · rw [d] at c;cases c
   exact d (c.trans a.symm)
end
def aC3 (ga N:Nat) (vt vf:Value) (ks:List Nat) (w:World) (c:Ending) (w':World):Prop:=
 ∃(b:Nat) (tk:List Bool) (fr:List Nat),c=.returned (.tuple #[(b:Int),.int .i64 0])/\b∉ks/\ArenaE w' (Gw (AF ga vt vf) w.heap.size) ga tk fr/\((b < N/\tk.length=N)∨(b=N/\tk.length=N+1/\N<=ks.length))/\(∀a,tk[a]?=some true↔a∈ks∨a=b)/\fr.Nodup/\(∀a,a∈fr↔tk[a]?=some false)/\Keep (AF ga vt vf) w w'
def aBG (F:Nat->Prop) (gp ga R P:Nat) (vl vo vt vf:Value) (ks:List Nat) (C:List (Nat×Nat)) (tk:List Bool) (fr:List Nat) (w:World) (b:PermX w F gp ga vl vo vt vf R P ks C tk fr):
 Calls prog 150 #[ga] w (aC3 ga C.length vt vf ks w):=by
 have Y:=b.arena;have i:=b.at_;have af:=b.sz;have G:∀a∈fr,a < tk.length:=fun a g=>(zAc.1 ((b.frk a).1 g)).1;rcases List.eq_nil_or_concat fr with a3 |⟨o,e,a4⟩
 · subst a3;obtain ⟨O,U,n,_⟩:=aQ i.trow;obtain ⟨A,D,t,_⟩:=aQ i.frow;have E:=i.ar;have z:=i.trow;rw [n,t] at E;rw [n] at z;have u:=rP 0 ga O U A D tk.length tk w E z (zAp _) (by have:=b.tkl;omega);refine u.mono ?_;rintro r w' ⟨rfl,p,ag,a1,M,a6⟩;have aa:tk.length∉ks:=fun x=>by have:=(b.tkk _).2 x;rw [zBg nL] at this;cases this
   obtain ⟨Q,V,s,_⟩:=aQ M;have a8:Keep (AF ga vt vf) w w':=p.mono fun k _ c=>by rcases c with c | c;exact .inl c;exact .inr (.inl (by rw [n];exact c))
   have H:w'.ownsRow 0 3 1 vf 0 []:=by
    have:=aA (w':=w') (cB i.frow (zAp _)) fun k ac _ d=>p.bk d fun c=>by rcases c with c | c;exact Bk.ne d i.ar dC c;obtain ⟨ad,a2⟩:=eW z c;exact absurd (aL d a2).1 dC
    exact this
   rw [t] at H;have q:(tk++ [true]).length=tk.length+1:=(by simp);have y:=b.tkl;have a0:C.length<=ks.length:=by
    have X:=oP (l:=List.range C.length) (m:=ks) List.nodup_range fun a g=>by
        rw [zCj,<-y] at g;cases d:tk[a] with
        | true=>exact (b.tkk a).1 (by rw [zAa g,d])
        | false=>exact absurd ((b.frk a).2 (by rw [zAa g,d])) (by simp)
    simpa using X
   refine ⟨tk.length,tk++ [true], [],rfl,aa,⟨.inl (.inl rfl),Q,V,A,D,?_,?_,H,?_,?_⟩,.inr ⟨y,by rw [q,y],a0⟩,fun a=>?_,List.nodup_nil,fun a=>?_,a8⟩;rw [q,<-s];exact a1;rw [q,<-s];exact M;intro k d;rw [q,<-s] at d;rcases a6 with c |⟨ae,c,W⟩;rw [c] at d;exact .inl (.inr (.inl (by rw [n];exact d)));rw [c] at d;injection d with d;subst d;exact .inr W;intro k d;exact .inl (.inr (.inr (by rw [t];exact d)))
   · rw [<-b.tkk a,aCR];simp
   · rw [b.frk a,aCR];simp
 · have a5:fr=o++ [e]:=(by simpa using a4);subst a5;have p:=(b.frk e).1 (by simp);have v:=G e (by simp);have J:=b.frn;have a9:(o++ [e]).length<=tk.length:=gS J G;have u:=tY (AF ga vt vf) ga e tk o w Y v (by have:=b.tkl;omega) (by simp at a9;omega);refine u.mono ?_;rintro r w' ⟨rfl,Z,a7⟩;have ab:e∉ks:=fun x=>by have:=(b.tkk e).2 x;rw [p] at this;cases this
   have K:=List.nodup_append.1 J;have I:∀a,(tk.set e true)[a]?=if a=e then some true else tk[a]?:=fun a=>by
    rw [zBm];by_cases f:e=a
    · subst f;simp [v]
    · rw [zBw f,zBw (fun r=>f r.symm)]
   refine ⟨e,tk.set e true,o,rfl,ab,Z.mono fun k _ c=>.inl c,.inl ⟨by rw [<-b.tkl];exact v,by rw [zAt,b.tkl]⟩,fun a=>?_,K.1,fun a=>?_,a7⟩
   · rw [I,<-b.tkk a];by_cases f:a=e
     · simp [f]
     · simp [f]
   · rw [I];by_cases f:a=e
     · subst f;rw [zBx rfl];constructor;intro g;exact absurd rfl (K.2.2 a g a (by simp))
       · intro g;cases g
     · rw [zBw f,<-b.frk a];simp [f]
def PermX.stow {w w':World} {F:Nat->Prop} {gp ga R P k row pos i n0:Nat} {vl' vo':Value} {ks:List Nat} {C C9:List (Nat×Nat)} {tk:List Bool} {fr:List Nat} {AFF:Nat->Prop}
 (Y:∀a∈ks,a < C.length) (a0:ks.Nodup) (y:k∉ks) (v:k < C9.length) (I:C.length<=C9.length) (a5:C9.length<=1000) (a7:tk.length=C9.length)
 (V:∀a∈ks,(aB C9 a,aI C9 a)=(aB C a,aI C a)) (a3:ks.Pairwise (fun d b=>aB C d < aB C b)) (u:i=ks.countP fun a=>decide (aB C a < row)) (a1:∀a∈ks,aB C a≠row)
 (n:Bk w' gp 166 #[ga,vl',vo',.int .i64 (R:Int),(P:Int)])
 (Z:w'.ownsRow 0 170 2 vl' C9.length (bW (C9.set k (row,pos)))) (a2:w'.ownsRow 0 3 1 vo' (ks.length+1) ((aP ks i k).map sv))
 (m:ArenaE w' AFF ga tk fr) (r:∀b,AFF b->F b) (U:F ga) (W:F gp) (a9:OwnF F vl') (aa:OwnF F vo') (K:∀b,vo'.ownBlock=some b->¬AFF b)
 (a6:∀a,tk[a]?=some true↔a∈ks∨a=k) (Q:fr.Nodup) (O:∀a,a∈fr↔tk[a]?=some false):
 ∃vt vf,PermX w' F gp ga vl' vo' vt vf R P (aP ks i k) (C9.set k (row,pos)) tk fr/\((aP ks i k).map fun a=>(aB (C9.set k (row,pos)) a,aI (C9.set k (row,pos)) a))=aP (ks.map fun a=>(aB C a,aI C a)) i (row,pos)/\(aP ks i k).Pairwise (fun d b=>aB (C9.set k (row,pos)) d < aB (C9.set k (row,pos)) b):=by
 obtain ⟨af,ac,ae,ab,ad,D,E,G,H,q⟩:=m;have X:i<=ks.length:=by rw [u];exact zBh
 have s:∀a,(aB (C9.set k (row,pos)) a,aI (C9.set k (row,pos)) a)=if a=k then (row,pos) else (aB C9 a,aI C9 a):=fun a=>by
  unfold aB aI;rw [zAb,zBm];by_cases l:k=a;subst l;rw [zBx rfl,zBx rfl,zBx v];rfl
  · rw [zBw l,zBw (fun e=>l e.symm),zAb]
 have t:∀a∈ks,(aB (C9.set k (row,pos)) a,aI (C9.set k (row,pos)) a)=(aB C a,aI C a):=fun a c=>by rw [s,zBw (fun e=>y (by rw [<-e];exact c)),V a c]
 have p:=s k;rw [zBx rfl] at p;have z:(aP ks i k).Perm (k::ks):=fC _ _ _;have x:∀a,a∈aP ks i k↔a=k∨a∈ks:=fun a=>by rw [z.mem_iff,List.mem_cons]
 refine ⟨_,_,⟨⟨n,by rw [zAt];exact Z,by rw [fX _ _ X];exact a2,D,E,G,?_,fun a c=>?_,⟨zAp _,zAp _⟩⟩,W,U,a9,aa,fun b o=>r b (H b o),fun b o=>r b (q b o),z.nodup_iff.2 (List.nodup_cons.2 ⟨y,a0⟩),by rw [zAt];exact a7,fun a=>by rw [a6 a,x a];exact Or.comm,Q,O,by rw [zAt];exact a5⟩,?_,?_⟩
 · cases a8:vo'.ownBlock with
   | none=>exact .inl rfl
   | some b=>exact .inr fun e=>K b a8 (q b e.symm)
 rw [zAt];rcases (x a).1 c with rfl | c;exact v;exact zAl (Y a c) I;rw [mY,p];congr 1;exact List.map_congr_left fun a c=>t a c
 · have g:∀a∈ks,aB (C9.set k (row,pos)) a=aB C a:=fun a c=>(Prod.mk.inj (t a c)).1;have A:aB (C9.set k (row,pos)) k=row:=(Prod.mk.inj p).1;have a4:ks.Pairwise (fun d b=>aB (C9.set k (row,pos)) d < aB (C9.set k (row,pos)) b):=(by refine List.Pairwise.imp_of_mem (fun {d b} m n J=>?_) a3;rw [g d m,g b n];exact J);have:=aEt (f:=aB (C9.set k (row,pos))) a4 k fun a c=>by rw [g a c,A];exact a1 a c
   have M:(ks.countP fun a=>decide (aB (C9.set k (row,pos)) a < aB (C9.set k (row,pos)) k))=i:=(by rw [u,A];refine List.countP_congr fun a c=>?_;rw [g a c]);rw [M] at this;exact this
def vU (w:World) (gp:Nat):Nat:=match w.cell? ⟨gp,1,none⟩ with
 | some (.slice _ a _)=>a
 | _=>0
structure AddL (F:Nat->Prop) (gp ga R P k:Nat) (vo:Value) (ks:List Nat) (C:List (Nat×Nat)) (tk:List Bool) (fr9:List Nat) (AFF:Nat->Prop) (n3:Nat) (w2 wr:World) (A9:Option Addr) (M c9:Nat) (C9:List (Nat×Nat)):Prop where
 blk:Bk wr gp 166 #[ga,.slice A9 M c9,vo,(R:Int),(P:Int)]
 own:wr.ownsRow 0 170 2 (.slice A9 M c9) M (bW C9)
 len:C9.length=M
 lo:C.length<=M
 hi:M<=max C.length (k+1)
 get:∀x∈ks,(aB C9 x,aI C9 x)=(aB C x,aI C x)
 ord:wr.ownsRow 0 3 1 vo ks.length (ks.map sv)
 ar:ArenaE wr AFF ga tk fr9
 keep:Keep F w2 wr
 fl:OwnF (Gw F w2.heap.size) (.slice A9 M c9)
 k3:n3<=wr.heap.size
def aBO (F:Nat->Prop) (gp R P row t:Nat) (pr:List (Nat×Nat)) (w:World) (cG:PermE w F gp R P pr) (cY:row < R) (cX:t < P) (bZ:∀I∈pr,I.1≠row) (bX:∀I∈pr,I.2≠t) (bT:pr.length<=900):
 Calls prog 90 #[gp,(row:Int),(t:Int)] w fun d w'=>d=.returned (.int .i64 0)/\(∃pr',pr'.Perm ((row,t)::pr)/\PermE w' (Gw F w.heap.size) gp R P pr')/\Keep F w w':=by
 obtain ⟨⟨ga,vl,vo,vt,vf,ks,C,tk,fr,x,rfl⟩,c5,bE⟩:=cG;obtain ⟨d4,cR,d1,d2,d3⟩:=info_parts sR;have W:=x.at_;have c4:=List.pairwise_map.1 c5;have b5:ks.Pairwise (fun W a=>aB C W < aB C a):=c4;have b3:∀c∈ks,aB C c≠row:=fun c y=>bZ _ (zAy.2 ⟨c,y,rfl⟩);have bY:∀c∈ks,aI C c≠t:=fun c y=>bX _ (zAy.2 ⟨c,y,rfl⟩);have bG:∀c∈ks,aB C c < R/\aI C c < P:=fun c y=>bE _ (zAy.2 ⟨c,y,rfl⟩);have cS:ks.length<=900:=by simpa using bT
 obtain ⟨a3,al⟩:∃a3,(ks.countP fun c=>decide (aB C c < row))=a3:=⟨_,rfl⟩;have bM:a3<=ks.length:=by rw [<-al];exact zBh
 have bK:decide (∃c∈ks,aB C c=row)=false:=by rw [decide_eq_false_iff_not];rintro ⟨c,y,d⟩;exact b3 c y d
 have bL:iY (fun c=>decide (aI C c=t)) ks 0=-1:=kG (fun c y=>by simpa using bY c y) 0;have aP:=jV 0 gp ga vl vo vt vf R P ks C tk fr row w W b5 oM;rw [al,bK] at aP;have b0:=fun cx cN=>iW 0 gp ga vl vo vt vf R P ks C tk fr t cx cN oM;simp only [bL] at b0;have cz:w.cell? ⟨gp,3,none⟩=some (.int .i64 (R:Int)):=(W.blk.cell 3).trans rfl;have cA:w.cell? ⟨gp,4,none⟩=some (.int .i64 (P:Int)):=(W.blk.cell 4).trans rfl;obtain ⟨Q,b2⟩:=eqx ks.length;obtain ⟨N,aM⟩:=eqx C.length;have dm:Q<=900:=oM;have dg:N<=1000:=by rw [<-aM];exact x.sz
 obtain ⟨bq,ay,cu,cq,ci,cl,K,D⟩:=hqq8 b0 x b5 b3 bG al b2 aM;rw [b2] at bM;clear c4 bK bL b0 c5 bE bZ bX b3 bY bG x W b5 al bT cS b2 aM;go_enter func90,ntmps90;go_wp2_with fail;refine aP.mono ?_;clear aP;rintro d w1 ⟨rfl,aU⟩;have ah:=ay.out.at_.below aU;obtain ⟨ax,az⟩:=hqq2 ah aU;clear ah aU cz cA;go_wp2_with fail;refine (bq.out w1 ax.out).mono ?_;rintro d q ⟨rfl,aV⟩;have bD:=az.out.trans (aV.mono az.out.size);have bf:PermX q F gp ga vl vo vt vf R P ks C tk fr:= { ay.out with at_:=ax.out.below aV };have cy:q.cell? gp=some (.pointer (some ga)):=(bf.at_.blk.cell 0).trans rfl;obtain ⟨m,bm⟩:=hqq2 bf bD;clear bf bD aV ax az bq ay;go_wp2_with fail;have aN:=aBG F gp ga R P vl vo vt vf ks C tk fr q m.out;unfold aC3 at aN;refine aN.mono ?_;clear aN;rintro d u ⟨c,ab,a4,rfl,bV,bz,bH,c6,bJ,bI,Z⟩;have a7:=Z.bk m.out.at_.blk m.out.gp_af;have ap:=aA (w':=u) m.out.at_.lrow fun a e _ b=>Z.bk b (m.out.pair_af b);have aq:=aA (w':=u) m.out.at_.orow fun a e b y=>Z.bk y (m.out.ord_af b);obtain ⟨aw,aF,c7,_⟩:=aQ ap;obtain ⟨ac,ag,O,_⟩:=aQ aq;have ba:vl=.slice aw N aF:=by rw [c7,D.out]
 have c9:vo=.slice ac Q ag:=by rw [O,K.out]
 rw [D.out] at ap;rw [K.out] at aq;have X:u.cell? ⟨gp,1,none⟩=some (.slice aw N aF):=(a7.cell 1).trans (by rw [ba];rfl);have aJ:=a7.frozen 1;have cP:=a7.lt;have dl:c<=N:=by have:=D.out;omega
 have bP:Keep F q u:=Z.mono fun a _ g=>m.out.af g;obtain ⟨cm,bs⟩:=hqq2 Z bP;have bi:=lhd (bz.mono (G:=fun a=>Gw (AF ga vt vf) q.heap.size a/\a < u.heap.size) fun a b g=>⟨g,b⟩);obtain ⟨bn,bo,bu,bv,aC,da,cp,cv,ck⟩:=hqq9 bH a7 ap aq ba c9 bV c6 bJ;have cj:=lhd bI;have bx:=(World.cell?_alloc_lt u (Obj.cells #[.int .i64 0,.int .i64 0] 170) ⟨gp,1,none⟩ cP).trans X;clear Z bP bz bH a7 ap aq c7 O ba c9 bV c6 bJ bI cy;have bN:AddL F gp ga R P c vo ks C ab a4 (fun a=>Gw (AF ga vt vf) q.heap.size a/\a < u.heap.size) u.heap.size q u aw N aF C:=
  ⟨by have:=bo.out;rwa [aC.out] at this,by have:=bu.out;rwa [aC.out] at this,D.out,by rw [D.out];exact zAs _,by have:=D.out;omega,fun I _=>rfl,by rw [K.out];exact bv.out,bi.out,bs.out,fun a b=>.inl (m.out.fl a (by rw [aC.out];exact b)),zAs _⟩
 have br:=lhd bN;clear bN X aJ bx;go_wp2_with fail;go_loopw [] (fun wr=>∃H f z v,AddL F gp ga R P c vo ks C ab a4 (fun a=>Gw (AF ga vt vf) q.heap.size a/\a < u.heap.size) u.heap.size q wr H f z v) (fun wr=>c+1 - vU wr gp)
 case atStart=>exact ⟨_,_,_,_,br.out⟩
 case round=>
  obtain ⟨H,f,z,v,s⟩:=hrel;clear br bo bu bv bi bs cm;have X:wr.cell? ⟨gp,1,none⟩=some (.slice H f z):=(s.blk.cell 1).trans rfl;have aJ:=s.blk.frozen 1;have cQ:=s.blk.lt;have cI:=s.len;have cJ:=s.lo;have cL:=s.hi;rw [D.out] at cJ cL;by_cases bU:f<=c
  · have cT:decide (f<=c)=true:=zBz bU;have cU:(f:Int)<=(c:Int):=oM;obtain rfl:f=N:=oM;have bx:=(World.cell?_alloc_lt wr (Obj.cells #[.int .i64 0,.int .i64 0] 170) ⟨gp,1,none⟩ cQ).trans X;have c2:vU wr gp=f:=(by unfold vU;rw [X]);obtain ⟨n,cs⟩:=hqq2 s c2;clear s c2;go_wp2_with (at_builtin;refine bO _ rfl (.tmp 72) (.tmp 74) _ rfl 0 170 d4 (.agg #[.int .i64 0,.int .i64 0]) 2 16 underlying109 cR d1 d2 d3 rfl dC (.slice H f z) f _ rfl n.out.own rfl rfl (by simp [Value.oneCell']) (by unfold maxLen;omega) oM (zAp _) ?_;intro du E b4 aX dq bC;have ai:=n.out.blk.grown aX (bF n.out.own n.out.blk dC);have dc:E.cell? ⟨gp,1,none⟩=some (.slice H f z):=(ai.cell 1).trans rfl;have de:=ai.frozen 1;obtain ⟨J,M,rfl,cV⟩:=aT b4;obtain ⟨ad,bt,V,bj⟩:=hqq4 ai b4 aX bC;clear cV b4 aX bC ai);have a9:Keep (fun a=>(Value.slice H f z).ownBlock=some a) wr E:=⟨V.out.os,V.out.tape,V.out.output,V.out.size,fun a b ao=>V.out.block a b fun d=>ao d.symm⟩
    have aK:AddL F gp ga R P c vo ks C ab a4 (fun a=>Gw (AF ga vt vf) q.heap.size a/\a < u.heap.size) u.heap.size q (E.setCell ⟨gp,1,none⟩ (.slice J (f+1) M)) J (f+1) M (v++ [(0,0)]):=by
        have L:=n.out;have Y:∀a l e,l≠166->Bk E a l e->Bk (E.setCell ⟨gp,1,none⟩ (.slice J (f+1) M)) a l e:=fun a l e o b=>b.far (p:=⟨gp,1,none⟩) (Bk.ne b ad.out o) _;have dn:∀a,(Value.slice H f z).ownBlock=some a->Gw F q.heap.size a:=fun a b=>L.fl a b;have ao:∀a l e,l≠170->Bk wr a l e->¬((Value.slice H f z).ownBlock=some a):=fun a l e o b d=>by obtain ⟨cB,aW⟩:=eW L.own d;exact o (aL b aW).1
        refine ⟨ad.out.set 1 _,?_,by rw [zAi,L.len];rfl,by have:=L.lo;omega,by omega,fun I x=>?_,?_,?_,?_,?_,?_⟩;rw [kB];exact aA bt.out fun a e _ b=>Y _ _ _ dC b
        · rw [<-L.get I x];have ds:=m.out.at_.lt I x;unfold aB aI;rw [zAb,zAb,zAn (by have:=L.lo;have:=L.len;omega)]
        exact aA L.ord fun a e _ b=>Y _ _ _ dC (a9.bk b (ao _ _ _ dC b));refine (L.ar.keep a9 fun a l e o b _=>ao a l e (fun d=>by subst d;revert o;decide) b).keep (G:=fun a=>a=gp) (Keep.setCell (F:=fun a=>a=gp) (Keep.refl _ _) (p:=⟨gp,1,none⟩) (.inl rfl) _) fun a l e o b _ d=>?_;have aH:a=gp:=d;subst aH;rw [(aL b ad.out).1] at o;revert o;decide;refine Keep.setCell (F:=F) (L.keep.trans' a9 fun a b g=>?_) (p:=⟨gp,1,none⟩) (.inl m.out.fp) _;rcases L.fl a g with A | A;exact A;omega;intro a b;rcases bj.out with d | d;rw [d] at b;exact L.fl a b;rw [d] at b;injection b with b;subst b;exact .inr (by have:=L.keep.size;omega);have ah:=L.k3;have cH:=a9.size;have df:(E.setCell ⟨gp,1,none⟩ (.slice J (f+1) M)).heap.size=E.heap.size:=(by simp [World.setCell]);omega
    have c3:vU (E.setCell ⟨gp,1,none⟩ (.slice J (f+1) M)) gp=f+1:=(by have cC:(E.setCell ⟨gp,1,none⟩ (.slice J (f+1) M)).cell? ⟨gp,1,none⟩=some (.slice J (f+1) M):=(aK.blk.cell 1).trans rfl;unfold vU;rw [cC]);obtain ⟨cf,ct⟩:=hqq2 aK c3;clear aK c3 a9 ad bt V bj n;go_roundw
    case rel=>exact ⟨_,_,_,_,cf.out⟩
    case measure=>rw [cs.out,ct.out];omega
  · have cT:decide (f<=c)=false:=zBy bU;have cU:¬(f:Int)<=(c:Int):=oM;have aa:c < f:=oM;have dk:(c:Int) < (f:Int):=oM;obtain ⟨r,dt,b6,_,dh⟩:=World.ownsRow.form s.own oM;injection b6 with b6 _ hs9c;subst b6 hs9c;obtain ⟨db,a6⟩:=fL s.own;have dj:gp≠r:=Bk.ne s.blk a6 dC;have d8:=a6.frozen (c*2);have d9:=a6.frozen (c*2+1);obtain ⟨bg,bh⟩:=cK v c (by rw [cI];exact aa);have cd:=(World.ownsRow.cellAt s.own (c*2) oM).trans bg;have ce:=(World.ownsRow.cellAt s.own (c*2+1) oM).trans bh;generalize aB v c=u0 at cd bg;generalize aI v c=u1 at ce bh;obtain ⟨ac,ag,O,_⟩:=aQ s.ord;rw [K.out] at O;have aG:wr.cell? ⟨gp,2,none⟩=some (.slice ac Q ag):=(s.blk.cell 2).trans (by rw [O];rfl);obtain ⟨n,ch,ae⟩:=hqq3 s a6 O;clear s a6 O bg bh;go_wp2_with fail;have bb:((wr.setCell ⟨r,c*2,none⟩ (.int .i64 (row:Int))).setCell ⟨r,c*2+1,none⟩ (.int .i64 (t:Int))).ownsRow 0 170 2 (.slice (some r) f z) f (bW (v.set c (row,t))):=(by have cc:=(World.ownsRow.stored n.out.own (c*2) (.int .i64 (row:Int))).1;rw [kC v c row (by rw [n.out.len];exact aa)] at cc;have au:=(World.ownsRow.stored cc (c*2+1) (.int .i64 (t:Int))).1;rw [mV _ c t (by rw [zAt,n.out.len];exact aa)] at au;rw [List.set_set] at au;have cD:aB (v.set c (row,aI v c)) c=row:=(by unfold aB;rw [zAb,List.getElem?_set_self (by rw [n.out.len];exact aa)];rfl);rw [cD] at au;exact au);have a1:Keep (fun a=>a=r) wr ((wr.setCell ⟨r,c*2,none⟩ (.int .i64 (row:Int))).setCell ⟨r,c*2+1,none⟩ (.int .i64 (t:Int))):=((Keep.refl (fun a=>a=r) wr).setCell (p:=⟨r,c*2,none⟩) (.inl rfl) _).setCell (p:=⟨r,c*2+1,none⟩) (.inl rfl) _;have b8:((wr.setCell ⟨r,c*2,none⟩ (.int .i64 (row:Int))).setCell ⟨r,c*2+1,none⟩ (.int .i64 (t:Int))).heap.size=wr.heap.size:=(by simp [World.setCell]);rw [<-b8];clear cd ce d8 d9 X aG aJ;generalize (wr.setCell ⟨r,c*2,none⟩ (.int .i64 (row:Int))).setCell ⟨r,c*2+1,none⟩ (.int .i64 (t:Int))=w7 at bb a1 b8⊢;have an:∀a l e,l≠170->Bk wr a l e->¬(a=r):=fun a l e o b d=>by subst d;exact o (aL b ch.out).1
    have aZ:=a1.bk n.out.blk (an _ _ _ dC n.out.blk);have bd:=aA (w':=w7) n.out.ord fun a e _ b=>a1.bk b (an _ _ _ dC b);have bA:=n.out.ar.keep a1 fun a l e o b _=>an a l e (fun d=>by subst d;revert o;decide) b;have bQ:Keep F q w7:=n.out.keep.trans' a1 fun a b g=>by have cE:a=r:=g;rcases n.out.fl a (by rw [cE];rfl) with A | A;exact A;omega
    have a5:Below w7.heap.size w7 (w7.alloc (.cells #[(c:Int)] 3)):=bR.alloc nL _;have ak:=Bk.new w7 3 #[(c:Int)];have a2:=aR bd a5;have bc:=aR bb a5;have aj:=aZ.below a5 aZ.lt;have aO:=bA.keep (G:=fun _=>False) (Keep.of_below a5) fun _ _ _ _ _ _ g=>g;have am:Keep F q (w7.alloc (.cells #[(c:Int)] 3)):=bQ.alloc _;obtain ⟨cF,aY⟩:=eqx w7.heap.size;rw [aY] at ak;rw [aY];have cb:∀a,vo.ownBlock=some a->a < w7.heap.size:=fun a b=>(bd.lt a b).2;rw [K.out,ae.out] at a2;have be:wr.heap.size<=(w7.alloc (.cells #[(c:Int)] 3)).heap.size:=(by simp;omega);have bw:=lhd be;clear be;generalize w7.alloc (.cells #[(c:Int)] 3)=w8 at bw ak a2 bc aj aO am⊢;have b1:=zM 0 ac Q ag a3 ks cF c w8 a2 ak (fun a b d=>by have:=cb a (by rw [ae.out];exact b);omega) (zAp _) bM oM;unfold sA at b1;refine b1.mono ?_;clear b1;rintro d U ⟨av,aE,rfl,c0,a0,aS⟩;rw [<-ae.out] at a0 aS a2;have b9:∀a l e,l≠3->Bk w8 a l e->¬(vo.ownBlock=some a):=fun a l e o b d=>by obtain ⟨cB,aW⟩:=eW a2 d;exact o (aL b aW).1
    have a8:=a0.bk aj (b9 _ _ _ dC aj);have c8:=aA (w':=U) bc fun a e _ b=>a0.bk b (b9 _ _ _ dC b);have ca:∀a,vo.ownBlock=some a->¬(Gw (AF ga vt vf) q.heap.size a/\a < u.heap.size):=fun a b g=>by rcases g.1 with g | g;exact m.out.ord_af b g;have:=(m.out.at_.orow.lt a b).2;omega
    have bB:=aO.keep a0 fun a l e _ _ g d=>ca a d g;have bS:Keep F q U:=am.trans' a0 fun a _ g=>m.out.fo a g;have aG:U.cell? ⟨gp,2,none⟩=some vo:=(a8.cell 2).trans rfl;rw [ae.out] at aG;have dd:=a8.frozen 2;have di:=a8.lt;obtain ⟨bp,cw,cg,co,cr,bl,cn⟩:=hqq7 a8 c8 bB bS c0 aS am;clear a8 c8 bB bS c0 aS am a0 a2 bc aj aO ak a5 bQ bA bd aZ a1 bb b8 aY cb b9 an;go_wp2_with fail;go_ret;have b7:Keep (fun a=>a=gp) U (U.setCell ⟨gp,2,none⟩ (.slice av (Q+1) aE)):=Keep.setCell (F:=fun a=>a=gp) (Keep.refl _ _) (p:=⟨gp,2,none⟩) (.inl rfl) _;have Y:∀a l e,l≠166->Bk U a l e->¬(a=gp):=fun a l e o b d=>by subst d;exact o (aL b bp.out).1
    have dp:=bm.out.size;have dr:=cn.out.size;have be:=bw.out;have cM:f<=1000:=(by rcases bn.out with aD | aD;have:=D.out;omega;have:=D.out;have:=K.out;omega);have cW:∀a,Gw F q.heap.size a->Gw F w.heap.size a:=fun a g=>by rcases g with g | g;exact .inl g;exact .inr oM
    have L:=n.out
    obtain ⟨d6,d5,cO,c1,cZ⟩:=PermX.stow (w:=w) (w':=U.setCell ⟨gp,2,none⟩ (.slice av (Q+1) aE)) (F:=Gw F w.heap.size) (gp:=gp) (ga:=ga) (R:=R) (P:=P) (k:=c) (row:=row) (pos:=t) (i:=a3) (n0:=0) (vl':=.slice (some r) f z) (vo':=.slice av (Q+1) aE) (ks:=ks) (C:=C) (C9:=v) (tk:=ab) (fr:=a4) (AFF:=fun a=>Gw (AF ga vt vf) q.heap.size a/\a < u.heap.size)
        m.out.at_.lt m.out.nd cp.out (by rw [L.len];exact aa) (by rw [L.len];exact L.lo) (by rw [L.len];exact cM) (by
         rw [L.len];rcases bn.out with aD | aD;have:=L.lo;have:=L.hi;omega
         · have:=L.lo;have:=L.hi;omega) L.get cu.out cl.out.symm cq.out (bp.out.set 2 _)
        (by rw [L.len];exact aA cw.out fun a e _ b=>b7.bk b (Y _ _ _ dC b))
        (by rw [K.out];exact aA cr.out fun a e _ b=>b7.bk b (Y _ _ _ dC b))
        (cg.out.keep b7 fun a l e o b _=>Y a l e (fun d=>by subst d;revert o;decide) b)
        (fun a g=>by
         rcases g.1 with A | A;exact .inl (m.out.af A)
         · exact .inr oM)
        (.inl m.out.fa) (.inl m.out.fp) (fun a b=>cW a (L.fl a b))
        (fun a b=>by
         rcases bl.out with d |⟨A,d,aH⟩;exact .inl (m.out.fo a (by rw [<-d];exact b))
         · rw [d] at b;injection b with b;subst b;exact .inr oM)
        (fun a b g=>by
         rcases bl.out with d |⟨A,d,aH⟩;exact ca a (by rw [<-d];exact b) g
         · rw [d] at b;injection b with b;subst b;have ah:=g.2;have cH:=L.k3;omega)
        cv.out ck.out cj.out
    refine ⟨rfl,⟨_,?_,⟨ga,_,_,d6,d5,_,_,ab,a4,cO,rfl⟩,List.pairwise_map.2 cZ,fun I x=>?_⟩,(Keep.of_below bm.out).trans (Keep.setCell (F:=F) co.out (p:=⟨gp,2,none⟩) (.inl m.out.fp) _)⟩;rw [c1];exact fC _ _ _;rw [c1] at x;rcases List.mem_cons.1 ((fC _ _ _).subset x) with rfl | x;exact ⟨cY,cX⟩;obtain ⟨d7,d0,rfl⟩:=zAy.1 x;exact ci.out d7 d0
def PermE.inj {w:World} {F:Nat->Prop} {gp R P:Nat} {pr:List (Nat×Nat)} (e:PermE w F gp R P pr) {c d:Nat×Nat} (i:c∈pr) (k:d∈pr) (l:c.1=d.1):c=d:=by
 obtain ⟨b,f,rfl⟩:=List.getElem_of_mem i;obtain ⟨j,g,rfl⟩:=List.getElem_of_mem k;rcases Nat.lt_trichotomy b j with a | a | a;have:=zAr.1 e.2.1 b j f g a;omega;subst a;rfl;have:=zAr.1 e.2.1 j b g f a;omega
end
section
open Go.RowKit
structure LiveG (w:World) (Bw gl gk gp rate n:Nat) (L:List Nat) (pr:List (Nat×Nat)):Prop where
 blk:∃mv:Int,Bk w gl 92 #[gk,gp,(rate:Int),.int .i64 mv]
 walk:WalkAt w Bw gk L
 perm:PermR w gp n n pr
def LiveG.vis {w w':World} {c gl gk gp rate d:Nat} {L:List Nat} {pr:List (Nat×Nat)} (a:LiveG w c gl gk gp rate d L pr) (b:Vis w w'):LiveG w' c gl gk gp rate d L pr:=by
 obtain ⟨mv,e⟩:=a.blk;exact ⟨⟨mv,b.bk e dC dC⟩,a.walk.vis b,a.perm.vis b⟩
def LiveG.lvw {w:World} {a gl gk gp rate d:Nat} {L:List Nat} {pr:List (Nat×Nat)} (b:LiveG w a gl gk gp rate d L pr):LvW w a gl L:=by
 obtain ⟨mv,c⟩:=b.blk;exact ⟨gk,_,_,_,c,b.walk⟩
def LiveG.mono {w:World} {b B' gl gk gp rate c:Nat} {L:List Nat} {pr:List (Nat×Nat)} (a:LiveG w b gl gk gp rate c L pr) (d:B'<=b):LiveG w B' gl gk gp rate c L pr:=⟨a.blk,a.walk.mono d,a.perm⟩
def LiveG.lt {w:World} {a gl gk gp rate c:Nat} {L:List Nat} {pr:List (Nat×Nat)} (b:LiveG w a gl gk gp rate c L pr):gl < w.heap.size:=b.lvw.lt
def tN (C:List (Nat×Nat)):C=(List.range C.length).map fun b=>(aB C b,aI C b):=by
 apply List.ext_getElem?;intro c;rw [zAf];by_cases a:c < C.length;rw [zCk a,zAa a];unfold aB aI;rw [Option.map_some,zAb,zAa a];rfl;rw [zBg oM,zBg (by simpa using a)];rfl
def LiveAt.g {w:World} {b gl gk gp ga:Nat} {vl vo vt:Value} {B d rate:Nat} {L:List Nat} {C:List (Nat×Nat)} {tk:List Bool} (a:LiveAt w b gl gk gp ga vl vo vt B d rate L C tk) (i:C.Pairwise (fun e f=>e.1 < f.1)) (c:C.length<=1000):LiveG w b gl gk gp rate d L C:=
 ⟨⟨0,a.blk⟩,a.walk,B,ga,vl,vo,vt,_,_,C,tk, [],a.perm,aAU C i,c,by rw [zCi];exact c,tN C⟩
def vP {rs:List Nat} {rate n:Nat} (e:n<=rs.length):∀a∈cW rs rate n,rs[a.1]?=some a.2:=fun a c=>by
 obtain ⟨d,b⟩:=nQ c;rw [b,zAb,zAa (show a.1 < rs.length by omega)];rfl
def aF1 {c:List UInt8} {b:List Nat} {rate:Nat} (a:IsSuf (aG c) b):∃f∈cW b rate (c.length+1),f.2=0:=by
 obtain ⟨j,e,d⟩:=a.row (p:=0) (by rw [aM];omega);refine ⟨(j,0),(aHt _ _ _ _ _).2 ⟨?_,?_,Nat.zero_mod _⟩,rfl⟩;have:=a.len;rw [aM] at this;omega;rw [zAb,zAa e,d];rfl
def fQ (i gl gk gp rate:Nat) (e:List UInt8) (d:List Nat) (C:List (Nat×Nat)) (ad c:Nat) (w:World) (M:LiveG w i gl gk gp rate (e.length+1) (aE (aG e) d) C) (av:∀g∈C,d[g.1]?=some g.2) (l:IsSuf (aG e) d) (aY:e.length<=127) (a4:d[ad]?=some c):
 Calls prog 40 #[gl,(c:Int)] w fun m w'=>m=.returned (.int .i64 (ad:Int))/\VB i w w':=by
 have a6:d.length=e.length+1:=by rw [l.len,aM]
 have a1:(aE (aG e) d).length=e.length+1:=by rw [bZ,a6]
 have b0:c < e.length+1:=by have:=l.lt (zAd a4);rwa [aM] at this
 have a9:=aCi l;obtain ⟨N,a2⟩:=eqx e.length;have aw:∀a b:Nat,d[a]?=some (b+1)->∃s K,(aE (aG e) d)[a]?=some s/\cL (aE (aG e) d) s a=K/\d[K]?=some b:=fun a b v=>by obtain ⟨Q,al⟩:=zAc.1 v;have aS:b+1 < (aG e).length:=l.lt (zAd v);obtain ⟨K,an,am⟩:=l.row (p:=b) oM;have aq:=eH e;have aU:=rA aq Q al (by rw [aM] at aS;omega);exact ⟨(aG e).getD b 0,K,zAc.2 ⟨_,aU⟩,lf l aq Q an al am,zAc.2 ⟨an,am⟩⟩
 have a7:∀a b:Nat,d[a]?=some b->b<=e.length/\a<=e.length:=fun a b v=>by have k:=l.lt (zAd v);rw [aM] at k;have O:=(zAc.1 v).1;omega
 have ax:∀a,d[a]?=some c->a=ad:=fun a Q=>uU l Q a4;rw [a2] at M;rw [a2] at a1 b0 aY a6 a9 a7;have b6:decide ((c:Int) < 0)=false:=by simp
 have aZ:¬N < c:=oM;have b7:decide (N < c)=false:=zBy aZ;obtain ⟨r,aD,aB,ai,aC,aj,J⟩:=hqq7 M a9 av aw a7 ax a1;have ah:=lhd (dR (eU e) (rs:=d));obtain ⟨mv,U⟩:=M.blk;have aI:=U.cell 0;have aJ:=U.cell 1;have aV:=U.lt;clear M a9 av aw a7 ax a1 l a4 a2 a6 U;go_enter func40,ntmps40;go_wp2_with fail;refine (cF i gl _ N w r.out.lvw J.out oM).mono ?_;rintro m w1 ⟨rfl,rfl⟩;go_wp2_with fail;refine (cF i gl _ N w r.out.lvw J.out oM).mono ?_;rintro m w1 ⟨rfl,rfl⟩;go_wp2_with fail;have a8:=oV gp (N+1) (N+1) C c w r.out.perm;unfold tE at a8;refine a8.mono ?_;rintro m az ⟨bb,rfl,I,ao⟩;clear a8;have ac:VB i w az:=VisK.of_below ao;have O:=r.out.vis ac.1;obtain ⟨b9,V⟩:=O.blk;have aL:=V.cell 0;have aN:=V.cell 1;have aX:=V.lt;obtain ⟨aA,ak⟩:=hqq2 O ac;clear ao ac O aI aJ aV V;rcases I with ⟨I,_⟩|⟨⟨b8,q⟩,aT,I,a5,_⟩
 · subst I;go_wp2_with fail;go_loopw [5,6] (fun g ag wr=>∃a f:Nat,c<=a/\a<=N/\d[f]?=some a/\g=.int .i64 (a:Int)/\ag=.int .i64 (f:Int)/\VB i w wr) (fun g _ _=>(intOf g).toNat)
   case atStart=>exact ⟨N,0,by omega,zAs _,aD.out,rfl,rfl,ak.out⟩
   case round=>
    obtain ⟨a,f,b1,aP,y,rfl,rfl,o⟩:=hrel;have k:=r.out.vis o.1;obtain ⟨b4,n⟩:=k.blk;have aK:=n.cell 0;have aW:=n.lt;obtain ⟨u,W,t⟩:=hqq3 o k y;clear k o y n;by_cases aQ:c < a
    · obtain ⟨b,x⟩:∃b,a=b+1:=⟨a - 1,by omega⟩;obtain ⟨s,ae,A,D,E⟩:=ai.out f b (by rw [<-x];exact t.out);have aO:IntKind.i64.wrap ((a:Int) - 1)=(b:Int):=(by rw [IntKind.wrap_i64];omega);obtain ⟨X,Y,Z⟩:=hqq3 A D E;have a3:c<=b:=oM;have aR:b < a:=oM;clear A D E x;go_wp2_with fail;refine (lZ i gk _ f s wr W.out.walk X.out ah.out (by rw [J.out];omega)).mono ?_;rintro m b5 ⟨rfl,G⟩;rw [Y.out];have H:=u.out.trans G;have a0:=lhd H;clear G H;go_wp2_with fail;go_roundw
      case rel=>exact ⟨b,ae,a3,by omega,Z.out,by go_num,by first | rfl | trivial,a0.out⟩
      case measure=>simp [intOf];omega
    · obtain rfl:a=c:=oM;have aa:=aj.out f t.out;subst aa;go_wp2_with fail;go_ret;exact ⟨rfl,u.out⟩
 · subst I;have a5:c<=q:=a5;have ar:∃g∈C,g.2=q:=⟨_,aT,rfl⟩;have b2:decide ((q:Int)>=0)=true:=(by simp);go_wp2_with fail;have ab:=rU gp (N+1) (N+1) C q az aA.out.perm ar;unfold yC at ab;refine ab.mono ?_;rintro m ba ⟨af,au,rfl,ap⟩;have z:=aB.out _ au;have z:d[af]?=some q:=z;have ay:=ak.out.below ap;obtain ⟨aF,aH⟩:=hqq2 z ay;have b3:=(aC.out af q z).1;clear ab au z ap ay ar aL aN aX b2;go_wp2_with fail;go_loopw [5,6] (fun g ag wr=>∃a f:Nat,c<=a/\a<=N/\d[f]?=some a/\g=.int .i64 (a:Int)/\ag=.int .i64 (f:Int)/\VB i w wr) (fun g _ _=>(intOf g).toNat)
   case atStart=>exact ⟨q,af,a5,b3,aF.out,rfl,rfl,aH.out⟩
   case round=>
    obtain ⟨a,f,b1,aP,y,rfl,rfl,o⟩:=hrel;have k:=r.out.vis o.1;obtain ⟨b4,n⟩:=k.blk;have aK:=n.cell 0;have aW:=n.lt;obtain ⟨u,W,t⟩:=hqq3 o k y;clear k o y n;by_cases aQ:c < a
    · obtain ⟨b,x⟩:∃b,a=b+1:=⟨a - 1,by omega⟩;obtain ⟨s,ae,A,D,E⟩:=ai.out f b (by rw [<-x];exact t.out);have aO:IntKind.i64.wrap ((a:Int) - 1)=(b:Int):=(by rw [IntKind.wrap_i64];omega);obtain ⟨X,Y,Z⟩:=hqq3 A D E;have a3:c<=b:=oM;have aR:b < a:=oM;clear A D E x;go_wp2_with fail;refine (lZ i gk _ f s wr W.out.walk X.out ah.out (by rw [J.out];omega)).mono ?_;rintro m b5 ⟨rfl,G⟩;rw [Y.out];have H:=u.out.trans G;have a0:=lhd H;clear G H;go_wp2_with fail;go_roundw
      case rel=>exact ⟨b,ae,a3,by omega,Z.out,by go_num,by first | rfl | trivial,a0.out⟩
      case measure=>simp [intOf];omega
    · obtain rfl:a=c:=oM;have aa:=aj.out f t.out;subst aa;go_wp2_with fail;go_ret;exact ⟨rfl,u.out⟩
end
section
open Go.RowKit Go.Shelf
def VisF.mono {F G:Nat->Prop} {w w':World} (b:VisF F w w') (e:∀a,a < w.heap.size->F a->G a):VisF G w w':=⟨b.os,b.tape,b.output,b.size,fun a c f=>b.block a c fun d=>f (e a c d)⟩
def VisF.trans' {F c:Nat->Prop} {w w1 w':World} (f:VisF F w w1) (k:VisF c w1 w') (i:∀a,a < w.heap.size->c a->F a):VisF F w w':=by
 have g:=VisF.trans (F:=fun a=>F a∨w.heap.size<=a) (f.mono fun a _ b=>.inl b) (k.mono fun a _ e=>by
  by_cases d:a < w.heap.size;exact .inl (i a d e)
  · exact .inr oM)
 exact g.mono fun a m b=>b.elim id fun l=>by omega
structure LF (B:Nat) (w w':World) (own own':Nat->Nat):Prop where
 old:∀b,b < w.heap.size->own' b=own b
 vis:VisF (fun b=>own b≠0) w w'
 keep:Keep (fun b=>B<=b) w w'
def LF.refl (B:Nat) (w:World) (own:Nat->Nat):LF B w w own own:=⟨fun _ _=>rfl,VisF.of_vis (Vis.refl w),Keep.refl _ _⟩
def LF.trans {B:Nat} {w w1 w':World} {own e own':Nat->Nat} (a:LF B w w1 own e) (d:LF B w1 w' e own'):LF B w w' own own':=by
 have g:=a.keep.size;refine ⟨fun b c=>(d.old b oM).trans (a.old b c),a.vis.trans' d.vis fun b c f=>?_,a.keep.trans d.keep⟩;rw [<-a.old b c];exact f
def LF.of_vb {B:Nat} {w w':World} {own:Nat->Nat} (a:VB B w w'):LF B w w' own own:=⟨fun _ _=>rfl,VisF.of_vis a.1,a.2⟩
structure LiveM (w:World) (B:Nat) (own:Nat->Nat) (gl gk gp rate:Nat) (mv:Int) (R P:Nat) (L T:List Nat) (pr:List (Nat×Nat)):Prop where
 blk:Bk w gl 92 #[gk,gp,(rate:Int),.int .i64 mv]
 col:own gl=3
 walk:WalkE w B own gk L T
 perm:PermE w (fun b=>own b=1) gp R P pr
section
variable {w w' : World} {B : Nat} {own own' : Nat -> Nat} {gl gk gp rate : Nat} {mv : Int} {R P R' P' : Nat} {L T L' T' : List Nat} {pr pr' : List (Nat × Nat)}
def LiveM.bnd (b:LiveM w B own gl gk gp rate mv R P L T pr):∀a,own a≠0->B<=a/\a < w.heap.size:=b.walk.bnd
def LiveM.lo (a:LiveM w B own gl gk gp rate mv R P L T pr):B<=gl:=(a.bnd gl (by rw [a.col];decide)).1
def LiveM.gw (c:LiveM w B own gl gk gp rate mv R P L T pr):∃a b,Bk w gk 100 #[.pointer (some ⟨a,0,none⟩),.pointer (some ⟨b,0,none⟩)]/\WaveAt w B a L:=by
 obtain ⟨a,b,d,_,e,_⟩:=c.walk;exact ⟨a,b,d,e.at⟩
def LiveM.vis (a:LiveM w B own gl gk gp rate mv R P L T pr) (b:Vis w w'):LiveM w' B own gl gk gp rate mv R P L T pr:=
 ⟨b.bk a.blk dC dC,a.col,a.walk.vis b,a.perm.vis b⟩
def LiveM.walkOp (c:LiveM w B own gl gk gp rate mv R P L T pr) (f:WalkE w' B own' gk L' T') (a:Grew w w' own own'):LiveM w' B own' gl gk gp rate mv R P L' T' pr/\LF B w w' own own':=by
 have e:=c.bnd;refine ⟨⟨a.keep.bk c.blk (fun d=>by have:=c.col;omega),by rw [a.old _ c.blk.lt];exact c.col,f,(c.perm.keep a.keep fun b d=>by omega).mono fun b _ d=>?_⟩,a.old,VisF.of_keep (a.keep.mono fun b _ d=>by omega),a.keep.mono fun b _ d=>(e b oM).1⟩;rw [a.old b (e b oM).2];exact d
def LiveM.permOp (c:LiveM w B own gl gk gp rate mv R P L T pr) (m:PermE w' (Gw (fun a=>own a=1) w.heap.size) gp R' P' pr') (e:Keep (fun a=>own a=1) w w'):LiveM w' B (dD own w.heap.size w'.heap.size 1) gl gk gp rate mv R' P' L T pr'/\LF B w w' own (dD own w.heap.size w'.heap.size 1):=by
 have g:=c.bnd;have k:∀a,a < w.heap.size->dD own w.heap.size w'.heap.size 1 a=own a:=fun a i=>by unfold dD;rw [zBx i]
 have o:B<=w.heap.size:=by have:=c.lo;have:=c.blk.lt;omega
 have p:=e.size;refine ⟨⟨e.bk c.blk (fun b=>by have:=c.col;omega),by rw [k _ c.blk.lt];exact c.col,(c.walk.far e fun a b=>⟨by omega,by omega⟩).paint (fun a i n=>?_) (fun a d=>?_),m.mono fun a i b=>?_⟩,k,VisF.of_keep (e.mono fun a _ b=>by omega),e.mono fun a _ b=>(g a oM).1⟩;by_cases f:a < w.heap.size;exact k a f;have:=(g a oM).2;omega;unfold dD at d;by_cases f:a < w.heap.size;rw [zBx f] at d;have:=g a d;exact ⟨this.1,by omega⟩;rw [zBw f] at d;by_cases l:a < w'.heap.size;exact ⟨by omega,l⟩;rw [zBw l] at d;exact absurd rfl d
 · rcases b with b | b;rw [k a (g a oM).2];exact b
   · unfold dD;rw [zBw oM,zBx i]
def LiveM.setMv (c:LiveM w B own gl gk gp rate mv R P L T pr) (f:Int):LiveM (w.setCell ⟨gl,3,none⟩ (.int .i64 f)) B own gl gk gp rate f R P L T pr/\LF B w (w.setCell ⟨gl,3,none⟩ (.int .i64 f)) own own:=by
 have e:Keep (fun a=>a=gl) w (w.setCell ⟨gl,3,none⟩ (.int .i64 f)):=Keep.setCell (F:=fun a=>a=gl) (Keep.refl _ _) (p:=⟨gl,3,none⟩) (.inl rfl) _;have i:=c.col;refine ⟨⟨c.blk.set 3 _,c.col,c.walk.far e fun a b=>?_,c.perm.keep e fun a b g=>?_⟩,fun _ _=>rfl,VisF.of_keep (e.mono fun a _ b=>?_),e.mono fun a _ b=>?_⟩;have g:a=gl:=b;subst g;exact ⟨by omega,by omega⟩;have d:a=gl:=g;subst d;omega;have d:a=gl:=b;subst d;show own a≠0;omega;have d:a=gl:=b;subst d;exact c.lo
def LiveM.len (b:LiveM w B own gl gk gp rate mv R P L T pr):LvW w B gl L∨¬T.Perm L:=by
 by_cases a:T.Perm L;exact .inl ⟨gk,_,_,_,b.blk,b.walk.at a⟩;exact .inr a
def LiveM.permR (d:LiveM w B own gl gk gp rate mv R P L T pr):PermR w gp R P pr:=by
 obtain ⟨⟨ga,vl,vo,vt,vf,ks,C,tk,fr,a,b⟩,c,f⟩:=d.perm;rw [b] at c;have e:=List.pairwise_map.1 c;have g:=gS a.nd a.at_.lt;exact ⟨0,ga,vl,vo,vt,vf,ks,C,tk,fr,a.at_,e,a.sz,by have:=a.sz;omega,b⟩
def LiveM.g (a:LiveM w B own gl gk gp rate mv R R L T pr) (b:T.Perm L):LiveG w B gl gk gp rate R L pr:=⟨⟨mv,a.blk⟩,a.walk.at b,a.permR⟩
end
section
variable {w : World} {B : Nat} {own : Nat -> Nat} {gl gk gp rate : Nat} {mv : Int} {R P : Nat} {L T : List Nat} {pr : List (Nat × Nat)}
def vG (a b:Nat) (c:LiveM w B own gl gk gp rate mv R P L T pr) (g:L[a]?=some b) (f:∀o∈L,o < 257) (n:L.length<=1000) (m:T.length<=1000):
 Calls prog 56 #[gl,(a:Int)] w fun e w'=>e=.returned (.int .i64 ((qT L T b a:Nat):Int))/\VB B w w':=by
 have d:=oT B gk L T a b w c.walk.atT g f n m;have p:=c.blk.cell 0;obtain ⟨q,i⟩:=eqx (qT L T b a);rw [i] at d⊢;clear c g f i;go_enter func56,ntmps56;go_wp2_with fail;refine d.mono ?_;rintro e w' ⟨rfl,k⟩;have l:=lhd k;clear d k;go_wp2_with fail;go_ret;exact ⟨rfl,l.out⟩
def nK (b:Nat) (w:World) (gl:Nat):
 Calls prog 54 #[gl,.int .i64 0,(b:Int)] w fun a w'=>a=.returned (.int .i64 (-1))/\w=w':=by
 go_enter func54,ntmps54;go_wp2_with fail;go_ret;exact ⟨rfl,rfl⟩
def pY (c a b:Nat) (d:LiveM w B own gl gk gp rate mv R P L T pr) (r:0 < c) (i:L[a]?=some b) (g:∀p∈L,p < 257) (o:L.length<=1000) (n:T.length<=1000):
 Calls prog 54 #[gl,(c:Int),(a:Int)] w fun f w'=>f=.returned (.int .i64 ((qT L T b a:Nat):Int))/\VB B w w':=by
 have e:=oT B gk L T a b w d.walk.atT i g o n;have q:=d.blk.cell 0;have s:((c:Int)==0)=false:=by rw [zCb];omega
 obtain ⟨t,k⟩:=eqx (qT L T b a);rw [k] at e⊢;clear d i g k;go_enter func54,ntmps54;go_wp2_with fail;refine e.mono ?_;rintro f w' ⟨rfl,l⟩;have m:=lhd l;clear e l;go_wp2_with fail;go_ret;exact ⟨rfl,m.out⟩
end
def inI (a b:Int):Int:=if a>=b then a+1 else a
def aAZ (a b:Int):Int:=if a > b then a - 1 else a
def uZ (b a:Nat):inI (b:Int) (a:Int)=((inR b a:Nat):Int):=by
 unfold inI inR;split <;> split <;> omega
def kV (b a:Nat):aAZ (b:Int) (a:Int)=((aW b a:Nat):Int):=by
 unfold aAZ aW;split <;> split <;> omega
def aFt (a:Nat):inI (-1) (a:Int)=-1:=by unfold inI;rw [zBw oM]
def aCu (a:Nat):aAZ (-1) (a:Int)=-1:=by unfold aAZ;rw [zBw oM]
def jD (a b:Int) (w:World) (f:-1000000<=a/\a<=1000000):
 Calls prog 62 #[.int .i64 a,.int .i64 b] w fun d w'=>d=.returned (.int .i64 (inI a b))/\w=w':=by
 unfold inI;by_cases c:a>=b
 · rw [zBx c];have e:wrap64 (a+1)=a+1:=dN oM oM;go_enter func62,ntmps62;go_wp2_with fail;go_ret;exact ⟨rfl,rfl⟩
 · rw [zBw c];go_enter func62,ntmps62;go_wp2_with fail;go_ret;exact ⟨rfl,rfl⟩
def lG (a b:Int) (w:World) (f:-1000000<=a/\a<=1000000):
 Calls prog 95 #[.int .i64 a,.int .i64 b] w fun d w'=>d=.returned (.int .i64 (aAZ a b))/\w=w':=by
 unfold aAZ;by_cases c:a > b
 · rw [zBx c];have e:IntKind.i64.wrap (a - 1)=a - 1:=(by rw [IntKind.wrap_i64];omega);go_enter func95,ntmps95;go_wp2_with fail;go_ret;exact ⟨rfl,rfl⟩
 · rw [zBw c];go_enter func95,ntmps95;go_wp2_with fail;go_ret;exact ⟨rfl,rfl⟩
def aE9 (a d b:Nat) (w:World) (r:0 < a∨¬d < b) (q:a<=1000000):
 Calls prog 121 #[(a:Int),(d:Int),(b:Int)] w fun l w'=>l=.returned (.int .i64 ((aIB a d b:Nat):Int))/\w=w':=by
 unfold aIB;by_cases k:d < b
 · obtain ⟨c,p⟩:∃c,a=c+1:=⟨a - 1,by omega⟩;subst p;have o:(d:Int) < (b:Int):=oM;have m:IntKind.i64.wrap (((c+1:Nat):Int) - 1)=(c:Int):=(by rw [IntKind.wrap_i64];omega);obtain ⟨a,i⟩:=eqx (c+1);rw [i] at m⊢;have e:(if d < b then a - 1 else a)=c:=(by rw [zBx k];omega);simp only [e];by_cases f:b<=c
   · have g:(c:Int)>=(b:Int):=oM;have n:wrap64 ((c:Int)+1)=((c+1:Nat):Int):=(by rw [dN oM oM];rfl);rw [zBx f];clear e i;go_enter func121,ntmps121;go_wp2_with fail;go_ret;exact ⟨rfl,rfl⟩
   · have g:¬(c:Int)>=(b:Int):=oM;rw [zBw f];clear e i;go_enter func121,ntmps121;go_wp2_with fail;go_ret;exact ⟨rfl,rfl⟩
 · have o:¬(d:Int) < (b:Int):=oM;have e:(if d < b then a - 1 else a)=a:=(by rw [zBw k]);simp only [e];by_cases f:b<=a
   · have g:(a:Int)>=(b:Int):=oM;have n:wrap64 ((a:Int)+1)=((a+1:Nat):Int):=(by rw [dN oM oM];rfl);rw [zBx f];clear e;go_enter func121,ntmps121;go_wp2_with fail;go_ret;exact ⟨rfl,rfl⟩
   · have g:¬(a:Int)>=(b:Int):=oM;rw [zBw f];clear e;go_enter func121,ntmps121;go_wp2_with fail;go_ret;exact ⟨rfl,rfl⟩
def aBW (gl:Nat) (d e f:Value) (mv a b:Int) (w:World) (c:Bk w gl 92 #[d,e,f,.int .i64 mv]) (l:0<=a) (m:a<=b):
 Calls prog 51 #[gl,.int .i64 a,.int .i64 b] w fun g w'=>g=.returned (.int .i64 0)/\w'=w.setCell ⟨gl,3,none⟩ (.int .i64 0):=by
 have i:w.cell? ⟨gl,3,none⟩=some (.int .i64 mv):=(c.cell 3).trans rfl;have k:=c.frozen 3;have n:decide (a < 0)=false:=zBy oM;have o:¬a > b:=oM;have p:¬b < a:=oM;clear c;go_enter func51,ntmps51;go_wp2_with fail;go_ret;exact ⟨rfl,rfl⟩
def aOf (R:List Nat) (a:Nat):Int:=if a=0 then -1 else ((ro R (a - 1):Nat):Int)
def aCV (R:List Nat) (j:Nat):aOf R (j+1)=((ro R j:Nat):Int):=by unfold aOf;rw [zBw oM,zBb]
structure ReoI (w0 wr:World) (B:Nat) (kM own:Nat->Nat) (gl gk gp rate:Nat) (mv:Int) (S T:List Nat) (N i:Nat) (R:List Nat) (pr0 pr:List (Nat×Nat)):Prop where
 near:Near S R N i
 live:LiveM wr B own gl gk gp rate mv (N+1) (N+1) (aE S R) T pr
 tal:T.Perm (aE S R)
 right:∀x∈pr,R[x.1]?=some x.2
 plc:∀p,(∃x∈pr,x.2=p)↔∃x∈pr0,x.2=p
 ne:0 < i->pr≠ []
 lf:LF B w0 wr kM own
def kX {L T:List Nat} (c:T.Perm L) (b a:Nat):qT L T b a=cL L b a:=by
 unfold qT cL;rw [c.countP_eq]
section
variable {w0 wr : World} {B : Nat} {kM own : Nat -> Nat} {gl gk gp rate : Nat} {mv : Int} {S T : List Nat} {N j : Nat} {R : List Nat} {pr0 pr : List (Nat × Nat)}
def aHD (b:Near S R N j) {a:Nat} (c:a<=N):(aE S R)[ro R a]?=some (bK S a):=by
 unfold aE;rw [zAf,cG (b.mem.2 c)];rfl
def aHC (b:Near S R N (j+1)) (d:j < N) (a:ro R j=tgt S R j):Near S R N 0:=by
 refine aFn b d rfl (List.Perm.refl R) a (fun g e f=>?_) 0 (.inr ⟨a,rfl⟩);have i:ro R g≠ro R j:=fun c=>f (eV e (b.mem.2 oM) c);rw [<-a];unfold inR aW;split <;> split <;> omega
def kS (a:Near S R N (j+1)) (c:j < N):Near S (aP (aF R (ro R j)) (tgt S R j) j) N j/\ro (aP (aF R (ro R j)) (tgt S R j) j) j=tgt S R j/\(∀b,b<=N->b≠j->ro (aP (aF R (ro R j)) (tgt S R j) j) b=inR (aW (ro R b) (ro R j)) (tgt S R j))/\(aP (aF R (ro R j)) (tgt S R j) j).Perm R:=by
 have k:=aG7 a c;obtain ⟨d,e,f⟩:=uV a.nodup (t:=tgt S R j) (cG (a.mem.2 (show j<=N by omega))) (by rw [a.len];exact k);exact ⟨aFn a c rfl d e f j (.inl rfl),e,fun b g i=>f b (a.mem.2 g) i,d⟩
def aF7 (d:Near S R N (j+1)) (k:j < N) (l:∀b∈pr,R[b.1]?=some b.2):∀b∈pr.map (fun b=>(mvR (ro R j) (tgt S R j) b.1,b.2)),(aP (aF R (ro R j)) (tgt S R j) j)[b.1]?=some b.2:=fun b m=>by
 obtain ⟨a,n,rfl⟩:=zAy.1 m;have i:=l a n;have f:ro R a.2=a.1:=fR d.nodup i;have g:a.2<=N:=d.mem.1 (zAd i);obtain ⟨p,q,r,s⟩:=kS d k;show (aP (aF R (ro R j)) (tgt S R j) j)[mvR (ro R j) (tgt S R j) a.1]?=some a.2;have o:mvR (ro R j) (tgt S R j) a.1=ro (aP (aF R (ro R j)) (tgt S R j) j) a.2:=by
  unfold mvR;by_cases e:a.1=ro R j
  · have c:a.2=j:=eV (d.mem.2 g) (d.mem.2 oM) (by rw [f,e]);rw [zBx e,c,q]
  · have c:a.2≠j:=fun c=>e (by rw [<-f,c]);rw [zBw e,r _ g c,f]
 rw [o];exact cG (p.mem.2 g)
def vV {w':World} {own':Nat->Nat} {g:Int} {pr':List (Nat×Nat)} (a:ReoI w0 wr B kM own gl gk gp rate mv S T N (j+1) R pr0 pr) (f:j < N) (k:LiveM w' B own' gl gk gp rate g (N+1) (N+1) (aP (aF (aE S R) (ro R j)) (tgt S R j) (bK S j)) T pr') (d:pr'.Perm (pr.map fun b=>(mvR (ro R j) (tgt S R j) b.1,b.2))) (i:LF B wr w' own own'):
 ReoI w0 w' B kM own' gl gk gp rate g S T N j (aP (aF R (ro R j)) (tgt S R j) j) pr0 pr':=by
 obtain ⟨n,s,t,o⟩:=kS a.near f;have l:aE S (aP (aF R (ro R j)) (tgt S R j) j)=aP (aF (aE S R) (ro R j)) (tgt S R j) (bK S j):=aEs (cG (a.near.mem.2 oM));refine ⟨n,by rw [l];exact k,a.tal.trans ?_,fun b c=>aF7 a.near f a.right b (d.subset c),fun p=>?_,fun r e=>?_,a.lf.trans i⟩;unfold aE;exact (o.map _).symm;rw [<-a.plc p];constructor;rintro ⟨b,c,rfl⟩;obtain ⟨q,m,e⟩:=zAy.1 (d.subset c);exact ⟨q,m,by rw [<-e]⟩;rintro ⟨b,c,rfl⟩;exact ⟨_,d.symm.subset (zAy.2 ⟨b,c,rfl⟩),rfl⟩;subst e;have:=d.length_eq;simp at this;exact a.ne oM (zBk this.symm)
end
def aJg {S R:List Nat} {N a:Nat} (b:Near S R N (a+2)) (c:a+1 < N):((inR (aW (ro R a) (ro R (a+1))) (tgt S R (a+1)):Nat):Int)=aOf (aP (aF R (ro R (a+1))) (tgt S R (a+1)) (a+1)) (a+1):=by
 rw [aCV,(kS b c).2.2.1 a oM oM]
def Grew.after {w c f:World} {own e:Nat->Nat} (k:∀a,own a≠0->a < w.heap.size) (d:Keep (fun a=>own a=2∨16<=own a) w c) (b:Grew c f own e):Grew w f own e:=by
 have l:=d.size;refine ⟨fun a p=>b.old a oM,fun a o i=>?_,d.trans b.keep⟩;by_cases g:a < c.heap.size;have m:=b.old a g;have n:=k a oM;omega;exact b.new a oM i
def iJ (w0:World) (B:Nat) (kM:Nat->Nat) (gl gk gp rate:Nat) (S T:List Nat) (N:Nat) (pr0:List (Nat×Nat)) (a:Ending) (w':World):Prop:=
 a=.returned (.tuple #[])/\∃own mv R pr,ReoI w0 w' B kM own gl gk gp rate mv S T N 0 R pr0 pr
def eS (w0 w:World) (B:Nat) (kM cr:Nat->Nat) (gl gk gp rate:Nat) (cq:Int) (S T:List Nat) (N aI:Nat) (br:List Nat) (pr0 cs:List (Nat×Nat)) (aa:ReoI w0 w B kM cr gl gk gp rate cq S T N aI br pr0 cs) (cH:aI<=N) (cX:N<=127) (b:∀aG∈S,aG < 257):
 Calls prog 61 #[gl,(aI:Int),.int .i64 ((ro br aI:Nat):Int),.int .i64 (aOf br aI)] w (iJ w0 B kM gl gk gp rate S T N pr0):=by
 obtain ⟨c2,cu⟩:=hqq2 aa b;clear aa b;unfold iJ;go_enter func61,ntmps61;go_wp2_with fail;go_loopw [1,2,3] (fun aG cS cT wr=>∃(Y:Nat) (own:Nat->Nat) (mv:Int) (R:List Nat) (pr:List (Nat×Nat)),Y<=N/\aG=.int .i64 (Y:Int)/\cS=.int .i64 ((ro R Y:Nat):Int)/\cT=.int .i64 (aOf R Y)/\ReoI w0 wr B kM own gl gk gp rate mv S T N Y R pr0 pr) (fun aG _ _ _=>(intOf aG).toNat)
 case atStart=>exact ⟨aI,cr,cq,br,cs,cH,rfl,rfl,rfl,c2.out⟩
 case round=>
  clear c2;obtain ⟨Y,own,mv,R,pr,cY,rfl,rfl,rfl,am⟩:=hrel;rcases Y with _ | j
  · have v:=lhd am;clear am;go_wp2_with fail;go_end0;exact ⟨rfl,own,mv,R,pr,v.out⟩
  · have a0:j < N:=oM;have O:=am.near;obtain ⟨L,ag⟩:=eqx (aE S R);have bB:L.length=N+1:=(by rw [<-ag,bZ,O.len]);have bA:∀aG∈L,aG < 257:=(by rw [<-ag];exact dR cu.out);have c9:T.length=N+1:=(by rw [am.tal.length_eq,ag,bB]);have c8:S.length=N+1:=O.endk.len;have az:=aHD O (show j+1<=N by omega);have b3:=aHD O (show j<=N by omega);rw [aX oM] at az;rw [ag] at az b3;have bj:qT L T (S.getD j 0) (ro R (j+1))=tgt S R j:=(by rw [<-ag,kX am.tal];rfl);have cp:=aG7 O a0;have co:=fun q=>aHC O a0 q;have bw:=am.live;rw [ag] at bw;rw [aCV];have bD:ro R j < N+1:=(by have:=List.idxOf_lt_length_iff.2 (O.mem.2 (show j<=N by omega));rw [O.len] at this;exact this);have bH:ro R (j+1) < N+1:=(by have:=List.idxOf_lt_length_iff.2 (O.mem.2 (show j+1<=N by omega));rw [O.len] at this;exact this);obtain ⟨o,bP⟩:=eqx (tgt S R j);obtain ⟨c,bt⟩:=eqx (ro R j);obtain ⟨aR,bv⟩:=eqx (ro R (j+1));obtain ⟨aQ,bF⟩:=eqx (S.getD j 0);obtain ⟨g,bI⟩:=eqx (bK S j);rw [bP] at bj cp;rw [bt] at b3 bD;rw [bv] at bj az bH;rw [bF] at bj az;rw [bI] at b3;rw [bt,bv];have bQ:=vG aR aQ bw az bA oM oM;rw [bj] at bQ;have cC:IntKind.i64.wrap (((j+1:Nat):Int) - 1)=(j:Int):=(by rw [IntKind.wrap_i64];omega);obtain ⟨aJ,bL⟩:=eqx (j+1);rw [bL] at cC⊢;have d0:decide ((aJ:Int) > 0)=true:=zBz oM;have cZ:0 < aJ:=oM;obtain ⟨v,cz,aH,r,A,ct,a5,z,D⟩:=hqq9 am bw ag bB bA az b3 bP bt;obtain ⟨cy,cx,bo,ay,cw,cv,cB⟩:=hqq7 bv bF bI bL c9 c8 co;have d2:o<=N:=oM;clear am bw ag bB bA az b3 bP bt bv bF bI bL c9 c8 co O bj cp;go_wp2_with fail;refine bQ.mono ?_;clear bQ;rintro q w1 ⟨rfl,bS⟩;have cj:=cz.out.vis bS.1;have cd:=LF.of_vb (own:=own) bS;obtain ⟨aM,bz⟩:=hqq2 cj cd;clear cj cd bS;by_cases cb:c=o
    · have cF:((c:Int)==(o:Int))=true:=(by rw [cb];simp);go_wp2_with fail;refine bodyPost_ret (results_none rfl _ _ _) rfl ?_;have bs:=v.out;exact ⟨rfl,own,mv,R,pr,cB.out (by rw [D.out,z.out];exact cb),by rw [aH.out];exact aM.out,bs.tal,bs.right,bs.plc,fun X=>absurd X (zCl 0),bs.lf.trans bz.out⟩
    · have cF:((c:Int)==(o:Int))=false:=(by rw [zCb];omega);obtain ⟨cD,cU,ba,bk⟩:=aM.out.gw;have c0:=aM.out.blk.cell 0;have c1:=ba.cell 0;have ch:=eB B cD L aR aQ w1 bk (by rw [r.out];exact bH) (by have X:=ct.out;rw [zAa (by rw [r.out];exact bH)] at X;injection X) A.out (by rw [r.out];omega);clear ba bk;go_wp2_with fail;refine ch.mono ?_;clear ch;rintro q e ⟨rfl,bU⟩;have ck:=aM.out.vis bU.1;have ce:=bz.out.trans (LF.of_vb (own:=own) bU);obtain ⟨bp,c3⟩:=hqq2 ck ce;clear ck ce bU c0 c1;obtain ⟨cE,cW,ba,bk⟩:=bp.out.gw;have c0:=bp.out.blk.cell 0;have c1:=ba.cell 0;have ci:=eB B cE L c g e bk (by rw [r.out];exact bD) (by have X:=a5.out;rw [zAa (by rw [r.out];exact bD)] at X;injection X) A.out (by rw [r.out];omega);clear ba bk aM bz;go_wp2_with fail;refine ci.mono ?_;clear ci;rintro q V ⟨rfl,bV⟩;have cl:=bp.out.vis bV.1;have cf:=c3.out.trans (LF.of_vb (own:=own) bV);obtain ⟨l,aL⟩:=hqq2 cl cf;clear cl cf bV c0 c1 bp c3;rcases zBa j with bJ | bJ
      · have cI:decide ((aJ:Int) > 1)=false:=zBy (by have:=ay.out;omega);have cJ:¬(aJ:Int) > 1:=(by have:=ay.out;omega);have aA:aOf (aP (aF R (ro R j)) (tgt S R j) j) j=-1:=(by rw [bJ];rfl);have bq:=lhd aA;clear aA bJ;have H:V.cell? gl=some (.pointer (some gk)):=(l.out.blk.cell 0).trans rfl;have K:=l.out.blk.lt;have M:¬(own gl=2∨16<=own gl):=(by have:=l.out.col;omega);have bg:∀a,V.heap.size<=a->own a≠1:=fun a ai q=>by have:=(l.out.bnd a oM).2;omega
        go_wp2_with fail;refine wp_region_any kR ?_;refine cV 11 [60,61,62,63,64,65,66,67,68,69,70] (fun a=>own a=2∨16<=own a) 10 [10] (fun e=>WalkE e B own gk L T) (fun U e=>U=.int .i64 (g:Int)/\∃d,WalkE e B d gk (aF L c) T/\Grew V e own d) [is gl,is gl,is gl,is gk,is (o:Int),is gl,is gl,is gl,is gk,is (c:Int),dA] _ _ rfl dC kR kR kR ((l.out.walk.vis (Vis.of_below (below_drewN bR 1)))) (fun e V aa _ b7=>aa.vis (Vis.of_below b7)) (fun _ _ _ ⟨b0,d,b1,I⟩ av=>⟨b0,d,b1.vis (Vis.of_below av),I.old,I.new,I.keep.trans (Keep.of_below av)⟩) tA0 ?_ ?_
        · refine bG ?_;refine pH3 0 (.pointer (some gl)) ?_;refine pV3 0 60 ?_;refine pV3 1 61 ?_;refine pL3 2 62 (fun k b=>have b:Keep (fun a=>own a=2∨16<=own a) V k:=kD b;((b.cell (p:=gl) K M).trans H:k.cell? gl=some (.pointer (some gk)))) ?_;refine pH3 8 (.int .i64 (o:Int)) ?_;refine pH3 0 (.pointer (some gl)) ?_;refine pV3 5 65 ?_;refine pV3 6 66 ?_;refine pL3 7 67 (fun k b=>have b:Keep (fun a=>own a=2∨16<=own a) V k:=kD b;((b.cell (p:=gl) K M).trans H:k.cell? gl=some (.pointer (some gk)))) ?_;refine pH3 3 (.int .i64 (c:Int)) ?_;refine sC3 (fun _ k b b4 _ _ _ n _ _ _ J=>?_) ?_
          · replace b:Keep (fun a=>own a=2∨16<=own a) V k:=kD b;have bh:=b4 rfl;have c5:_=_:=n 8 68 kR rfl;have c6:_=_:=n 9 69 kR rfl;go_simp;refine (gL B gk own L T c g k bh a5.out A.out (by rw [r.out];omega)).mono ?_;rintro q y ⟨rfl,d,b2,af⟩;exact J _ _ (aU af.keep) ⟨rfl,d,b2,Grew.after (fun a ai=>(l.out.bnd a ai).2) b af⟩
          exact aD
        · intro G x m b n;replace b:Keep (fun a=>own a=2∨16<=own a) V x:=kD b;have aS:G (.tmp 63)=.pointer (some gk):=n 3 63 dC rfl;have aT:G (.tmp 64)=.int .i64 (o:Int):=n 4 64 dC rfl;have bn:(fun U e=>U=.int .i64 (g:Int)/\∃d,WalkE e B d gk (aF L c) T/\Grew V e own d) (G (.tmp 70)) x:=n 10 70 dC rfl;simp only [zqq];rw [aS];rw [aT];clear n;obtain ⟨c7,d,ab,ad⟩:=bn;obtain ⟨a3,a4⟩:=hqq2 ab ad;clear ab ad H K M bg b;change wpAny prog Region.Mode.any _ _ (1+m) (bX 11 12) _ x;rw [zCs 1 m];refine bC (f:=m) (i:=11) kR ?_;refine bN rfl rfl ?_;generalize J:wpAny prog _ _ _ m _=K5;go_simp;have b6:=dE L (show c < L.length by rw [r.out];omega);refine (eQ B gk d (aF L c) T o g x a3.out (A.out g (zAd a5.out)) (by have:=r.out;omega) (oG A.out) (by have:=r.out;omega)).mono ?_;rintro q W ⟨rfl,aw,ac,ae⟩;subst J;refine bT kR ?_;obtain ⟨t,aj⟩:=l.out.walkOp ac (a4.out.trans ae);have au:=cM (fun a=>aw a=1) gp (N+1) (N+1) c o pr W t.perm oM oM oM oM (v.out.ne oM);have aY:W.cell? ⟨gl,1,none⟩=some (.pointer (some gp)):=(t.blk.cell 1).trans rfl;have b8:=t.blk.lt;obtain ⟨a8,a6⟩:=hqq2 t (aL.out.trans aj);clear t aj ac ae a4 a3 b6;go_wp2_with fail;refine au.mono ?_;clear au;rintro q y ⟨rfl,⟨pr',ar,ah⟩,an⟩;obtain ⟨ao,ak⟩:=a8.out.permOp (ah.mono fun a _ m=>.inl m) an;obtain ⟨aO,s,E⟩:=hqq3 ar ao (a6.out.trans ak);clear ao ak ah an ar aY b8 a8 a6;obtain ⟨ax,aq⟩:=eqx (dD aw W.heap.size y.heap.size 1);rw [aq] at s E;have aZ:y.cell? ⟨gl,3,none⟩=some (.int .i64 mv):=(s.out.blk.cell 3).trans rfl;have aV:=s.out.blk.frozen 3;have b9:=s.out.blk.lt;go_wp2_with fail;obtain ⟨ap,al⟩:=s.out.setMv (wrap64 (mv+1));obtain ⟨a9,a7⟩:=hqq2 ap (E.out.trans al);clear ap al aZ aV b9 s E aq;generalize y.setCell ⟨gl,3,none⟩ (.int .i64 (wrap64 (mv+1)))=w9 at a9 a7⊢;go_wp2_with fail;go_roundw
          case rel=>have bc:LiveM w9 B ax gl gk gp rate (wrap64 (mv+1)) (N+1) (N+1) (aP (aF (aE S R) (ro R j)) (tgt S R j) (bK S j)) T pr':=(by rw [aH.out,D.out,z.out,bo.out];exact a9.out);have bi:=vV v.out a0 bc (by rw [D.out,z.out];exact aO.out) a7.out;have be:=(kS v.out.near a0).2.1;exact ⟨j,ax,wrap64 (mv+1),_,pr',by omega,rfl,by rw [be,z.out],by rw [bq.out],bi⟩
          case measure=>simp [intOf];have:=ay.out;omega
      · obtain ⟨a2,bd⟩:∃a2,j=a2+1:=⟨j - 1,by omega⟩;have cI:decide ((aJ:Int) > 1)=true:=zBz (by have:=ay.out;omega);have cJ:(aJ:Int) > 1:=(by have:=ay.out;omega);have bf:Near S R N (a2+2):=(by have:=v.out.near;rwa [bd] at this);obtain ⟨aK,bl⟩:=aHY bf oM;have aA:((inR (aW (ro R a2) (ro R j)) (tgt S R j):Nat):Int)=aOf (aP (aF R (ro R j)) (tgt S R j) j) j:=(by subst bd;exact aJg bf a0);have cc:S.getD a2 0=g:=(by have:=bo.out;rw [bd,aX (by have:=cv.out;omega)] at this;exact this);rw [<-bd] at aK bl;rw [show a2+2=j+1 by omega,cc,cx.out,D.out,cy.out,aH.out] at aK bl;rw [D.out,z.out] at aA;have bx:=vG c g l.out a5.out A.out (by rw [r.out];omega) (by rw [cw.out];omega);have ca:qT L T g c=cL L g c:=kX (by rw [<-aH.out];exact v.out.tal) g c;rw [ca] at bx;have cK:cL L g c<=N+1:=(by have:=uY L g c;rw [r.out] at this;exact this);obtain ⟨bY,cn⟩:=eqx (cL L g c);rw [cn] at aK bl bx cK;obtain ⟨Q,bO⟩:=eqx (ro R a2);rw [bO] at aK aA;have d1:Q<=N:=(by have cN:ro R a2 < R.length:=List.idxOf_lt_length_iff.2 (bf.mem.2 (show a2<=N by omega));rw [bf.len,bO] at cN;omega);obtain ⟨bq,c4,cA⟩:=hqq3 aA aK bl;clear aA aK bl bf cc ca cn bO bd;go_wp2_with fail;refine bx.mono ?_;clear bx;rintro q u ⟨rfl,bW⟩;have cm:=l.out.vis bW.1;have cg:=aL.out.trans (LF.of_vb (own:=own) bW);obtain ⟨l,aL⟩:=hqq2 cm cg;clear cm cg bW;by_cases bu:aQ=g
        · have cG:((aQ:Int)==(g:Int))=true:=(by rw [bu];simp);have b5:aIB bY aR c=Q:=by have:=c4.out;rwa [zBx bu] at this
          have bE:=aE9 bY aR c u (by
           by_cases X:aR < c;exact .inl (cA.out bu X)
           · exact .inr X) oM
          rw [b5] at bE;clear b5;go_wp2_with fail;refine bE.mono ?_;clear bE;rintro q k ⟨rfl,rfl⟩;have H:u.cell? gl=some (.pointer (some gk)):=(l.out.blk.cell 0).trans rfl;have K:=l.out.blk.lt;have M:¬(own gl=2∨16<=own gl):=(by have:=l.out.col;omega);have bg:∀a,u.heap.size<=a->own a≠1:=fun a ai q=>by have:=(l.out.bnd a oM).2;omega
          go_wp2_with fail;refine wp_region_any kR ?_;refine cV 11 [60,61,62,63,64,65,66,67,68,69,70] (fun a=>own a=2∨16<=own a) 10 [10] (fun e=>WalkE e B own gk L T) (fun U e=>U=.int .i64 (g:Int)/\∃d,WalkE e B d gk (aF L c) T/\Grew u e own d) [is gl,is gl,is gl,is gk,is (o:Int),is gl,is gl,is gl,is gk,is (c:Int),dA] _ _ rfl dC kR kR kR ((l.out.walk.vis (Vis.of_below (below_drewN bR 1)))) (fun e V aa _ b7=>aa.vis (Vis.of_below b7)) (fun _ _ _ ⟨b0,d,b1,I⟩ av=>⟨b0,d,b1.vis (Vis.of_below av),I.old,I.new,I.keep.trans (Keep.of_below av)⟩) tA0 ?_ ?_
          · refine bG ?_;refine pH3 0 (.pointer (some gl)) ?_;refine pV3 0 60 ?_;refine pV3 1 61 ?_;refine pL3 2 62 (fun k b=>have b:Keep (fun a=>own a=2∨16<=own a) u k:=kD b;((b.cell (p:=gl) K M).trans H:k.cell? gl=some (.pointer (some gk)))) ?_;refine pH3 8 (.int .i64 (o:Int)) ?_;refine pH3 0 (.pointer (some gl)) ?_;refine pV3 5 65 ?_;refine pV3 6 66 ?_;refine pL3 7 67 (fun k b=>have b:Keep (fun a=>own a=2∨16<=own a) u k:=kD b;((b.cell (p:=gl) K M).trans H:k.cell? gl=some (.pointer (some gk)))) ?_;refine pH3 3 (.int .i64 (c:Int)) ?_;refine sC3 (fun _ k b b4 _ _ _ n _ _ _ J=>?_) ?_
            · replace b:Keep (fun a=>own a=2∨16<=own a) u k:=kD b;have bh:=b4 rfl;have c5:_=_:=n 8 68 kR rfl;have c6:_=_:=n 9 69 kR rfl;go_simp;refine (gL B gk own L T c g k bh a5.out A.out (by rw [r.out];omega)).mono ?_;rintro q y ⟨rfl,d,b2,af⟩;exact J _ _ (aU af.keep) ⟨rfl,d,b2,Grew.after (fun a ai=>(l.out.bnd a ai).2) b af⟩
            exact aD
          · intro G x m b n;replace b:Keep (fun a=>own a=2∨16<=own a) u x:=kD b;have aS:G (.tmp 63)=.pointer (some gk):=n 3 63 dC rfl;have aT:G (.tmp 64)=.int .i64 (o:Int):=n 4 64 dC rfl;have bn:(fun U e=>U=.int .i64 (g:Int)/\∃d,WalkE e B d gk (aF L c) T/\Grew u e own d) (G (.tmp 70)) x:=n 10 70 dC rfl;simp only [zqq];rw [aS];rw [aT];clear n;obtain ⟨c7,d,ab,ad⟩:=bn;obtain ⟨a3,a4⟩:=hqq2 ab ad;clear ab ad H K M bg b;change wpAny prog Region.Mode.any _ _ (1+m) (bX 11 12) _ x;rw [zCs 1 m];refine bC (f:=m) (i:=11) kR ?_;refine bN rfl rfl ?_;generalize J:wpAny prog _ _ _ m _=K5;go_simp;have b6:=dE L (show c < L.length by rw [r.out];omega);refine (eQ B gk d (aF L c) T o g x a3.out (A.out g (zAd a5.out)) (by have:=r.out;omega) (oG A.out) (by have:=r.out;omega)).mono ?_;rintro q W ⟨rfl,aw,ac,ae⟩;subst J;refine bT kR ?_;obtain ⟨t,aj⟩:=l.out.walkOp ac (a4.out.trans ae);have au:=cM (fun a=>aw a=1) gp (N+1) (N+1) c o pr W t.perm oM oM oM oM (v.out.ne oM);have aY:W.cell? ⟨gl,1,none⟩=some (.pointer (some gp)):=(t.blk.cell 1).trans rfl;have b8:=t.blk.lt;obtain ⟨a8,a6⟩:=hqq2 t (aL.out.trans aj);clear t aj ac ae a4 a3 b6;go_wp2_with fail;refine au.mono ?_;clear au;rintro q y ⟨rfl,⟨pr',ar,ah⟩,an⟩;obtain ⟨ao,ak⟩:=a8.out.permOp (ah.mono fun a _ m=>.inl m) an;obtain ⟨aO,s,E⟩:=hqq3 ar ao (a6.out.trans ak);clear ao ak ah an ar aY b8 a8 a6;obtain ⟨ax,aq⟩:=eqx (dD aw W.heap.size y.heap.size 1);rw [aq] at s E;have aZ:y.cell? ⟨gl,3,none⟩=some (.int .i64 mv):=(s.out.blk.cell 3).trans rfl;have aV:=s.out.blk.frozen 3;have b9:=s.out.blk.lt;go_wp2_with fail;obtain ⟨ap,al⟩:=s.out.setMv (wrap64 (mv+1));obtain ⟨a9,a7⟩:=hqq2 ap (E.out.trans al);clear ap al aZ aV b9 s E aq;generalize y.setCell ⟨gl,3,none⟩ (.int .i64 (wrap64 (mv+1)))=w9 at a9 a7⊢;have a1:=lG (Q:Int) (c:Int) w9 oM;rw [kV] at a1;have bM:aW Q c<=200:=(by unfold aW;split <;> omega);obtain ⟨bm,aC⟩:=eqx (aW Q c);rw [aC] at a1 bM;have Z:=jD (bm:Int) (o:Int) w9 oM;rw [uZ] at Z;have aB:=bq.out;rw [aC] at aB;have cO:decide ((Q:Int)>=0)=true:=(by simp);have aN:=lhd aB;obtain ⟨cP,bb⟩:=eqx (inR bm o);rw [bb] at Z aN;clear aB aC bb;go_wp2_with fail;refine a1.mono ?_;rintro q cQ ⟨rfl,rfl⟩;go_wp2_with fail;refine Z.mono ?_;rintro q cR ⟨rfl,rfl⟩;clear a1 Z;go_wp2_with fail;go_roundw
            case rel=>have bc:LiveM w9 B ax gl gk gp rate (wrap64 (mv+1)) (N+1) (N+1) (aP (aF (aE S R) (ro R j)) (tgt S R j) (bK S j)) T pr':=(by rw [aH.out,D.out,z.out,bo.out];exact a9.out);have bi:=vV v.out a0 bc (by rw [D.out,z.out];exact aO.out) a7.out;have be:=(kS v.out.near a0).2.1;exact ⟨j,ax,wrap64 (mv+1),_,pr',by omega,rfl,by rw [be,z.out],by rw [aN.out,D.out,z.out],bi⟩
            case measure=>simp [intOf];have:=ay.out;omega
        · have cG:((aQ:Int)==(g:Int))=false:=(by rw [zCb];omega);have b5:bY=Q:=(by have:=c4.out;rwa [zBw bu] at this);rw [b5];clear b5;have H:u.cell? gl=some (.pointer (some gk)):=(l.out.blk.cell 0).trans rfl;have K:=l.out.blk.lt;have M:¬(own gl=2∨16<=own gl):=(by have:=l.out.col;omega);have bg:∀a,u.heap.size<=a->own a≠1:=fun a ai q=>by have:=(l.out.bnd a oM).2;omega
          go_wp2_with fail;refine wp_region_any kR ?_;refine cV 11 [60,61,62,63,64,65,66,67,68,69,70] (fun a=>own a=2∨16<=own a) 10 [10] (fun e=>WalkE e B own gk L T) (fun U e=>U=.int .i64 (g:Int)/\∃d,WalkE e B d gk (aF L c) T/\Grew u e own d) [is gl,is gl,is gl,is gk,is (o:Int),is gl,is gl,is gl,is gk,is (c:Int),dA] _ _ rfl dC kR kR kR ((l.out.walk.vis (Vis.of_below (below_drewN bR 1)))) (fun e V aa _ b7=>aa.vis (Vis.of_below b7)) (fun _ _ _ ⟨b0,d,b1,I⟩ av=>⟨b0,d,b1.vis (Vis.of_below av),I.old,I.new,I.keep.trans (Keep.of_below av)⟩) tA0 ?_ ?_
          · refine bG ?_;refine pH3 0 (.pointer (some gl)) ?_;refine pV3 0 60 ?_;refine pV3 1 61 ?_;refine pL3 2 62 (fun k b=>have b:Keep (fun a=>own a=2∨16<=own a) u k:=kD b;((b.cell (p:=gl) K M).trans H:k.cell? gl=some (.pointer (some gk)))) ?_;refine pH3 8 (.int .i64 (o:Int)) ?_;refine pH3 0 (.pointer (some gl)) ?_;refine pV3 5 65 ?_;refine pV3 6 66 ?_;refine pL3 7 67 (fun k b=>have b:Keep (fun a=>own a=2∨16<=own a) u k:=kD b;((b.cell (p:=gl) K M).trans H:k.cell? gl=some (.pointer (some gk)))) ?_;refine pH3 3 (.int .i64 (c:Int)) ?_;refine sC3 (fun _ k b b4 _ _ _ n _ _ _ J=>?_) ?_
            · replace b:Keep (fun a=>own a=2∨16<=own a) u k:=kD b;have bh:=b4 rfl;have c5:_=_:=n 8 68 kR rfl;have c6:_=_:=n 9 69 kR rfl;go_simp;refine (gL B gk own L T c g k bh a5.out A.out (by rw [r.out];omega)).mono ?_;rintro q y ⟨rfl,d,b2,af⟩;exact J _ _ (aU af.keep) ⟨rfl,d,b2,Grew.after (fun a ai=>(l.out.bnd a ai).2) b af⟩
            exact aD
          · intro G x m b n;replace b:Keep (fun a=>own a=2∨16<=own a) u x:=kD b;have aS:G (.tmp 63)=.pointer (some gk):=n 3 63 dC rfl;have aT:G (.tmp 64)=.int .i64 (o:Int):=n 4 64 dC rfl;have bn:(fun U e=>U=.int .i64 (g:Int)/\∃d,WalkE e B d gk (aF L c) T/\Grew u e own d) (G (.tmp 70)) x:=n 10 70 dC rfl;simp only [zqq];rw [aS];rw [aT];clear n;obtain ⟨c7,d,ab,ad⟩:=bn;obtain ⟨a3,a4⟩:=hqq2 ab ad;clear ab ad H K M bg b;change wpAny prog Region.Mode.any _ _ (1+m) (bX 11 12) _ x;rw [zCs 1 m];refine bC (f:=m) (i:=11) kR ?_;refine bN rfl rfl ?_;generalize J:wpAny prog _ _ _ m _=K5;go_simp;have b6:=dE L (show c < L.length by rw [r.out];omega);refine (eQ B gk d (aF L c) T o g x a3.out (A.out g (zAd a5.out)) (by have:=r.out;omega) (oG A.out) (by have:=r.out;omega)).mono ?_;rintro q W ⟨rfl,aw,ac,ae⟩;subst J;refine bT kR ?_;obtain ⟨t,aj⟩:=l.out.walkOp ac (a4.out.trans ae);have au:=cM (fun a=>aw a=1) gp (N+1) (N+1) c o pr W t.perm oM oM oM oM (v.out.ne oM);have aY:W.cell? ⟨gl,1,none⟩=some (.pointer (some gp)):=(t.blk.cell 1).trans rfl;have b8:=t.blk.lt;obtain ⟨a8,a6⟩:=hqq2 t (aL.out.trans aj);clear t aj ac ae a4 a3 b6;go_wp2_with fail;refine au.mono ?_;clear au;rintro q y ⟨rfl,⟨pr',ar,ah⟩,an⟩;obtain ⟨ao,ak⟩:=a8.out.permOp (ah.mono fun a _ m=>.inl m) an;obtain ⟨aO,s,E⟩:=hqq3 ar ao (a6.out.trans ak);clear ao ak ah an ar aY b8 a8 a6;obtain ⟨ax,aq⟩:=eqx (dD aw W.heap.size y.heap.size 1);rw [aq] at s E;have aZ:y.cell? ⟨gl,3,none⟩=some (.int .i64 mv):=(s.out.blk.cell 3).trans rfl;have aV:=s.out.blk.frozen 3;have b9:=s.out.blk.lt;go_wp2_with fail;obtain ⟨ap,al⟩:=s.out.setMv (wrap64 (mv+1));obtain ⟨a9,a7⟩:=hqq2 ap (E.out.trans al);clear ap al aZ aV b9 s E aq;generalize y.setCell ⟨gl,3,none⟩ (.int .i64 (wrap64 (mv+1)))=w9 at a9 a7⊢;have a1:=lG (Q:Int) (c:Int) w9 oM;rw [kV] at a1;have bM:aW Q c<=200:=(by unfold aW;split <;> omega);obtain ⟨bm,aC⟩:=eqx (aW Q c);rw [aC] at a1 bM;have Z:=jD (bm:Int) (o:Int) w9 oM;rw [uZ] at Z;have aB:=bq.out;rw [aC] at aB;have cO:decide ((Q:Int)>=0)=true:=(by simp);have aN:=lhd aB;obtain ⟨cP,bb⟩:=eqx (inR bm o);rw [bb] at Z aN;clear aB aC bb;go_wp2_with fail;refine a1.mono ?_;rintro q cQ ⟨rfl,rfl⟩;go_wp2_with fail;refine Z.mono ?_;rintro q cR ⟨rfl,rfl⟩;clear a1 Z;go_wp2_with fail;go_roundw
            case rel=>have bc:LiveM w9 B ax gl gk gp rate (wrap64 (mv+1)) (N+1) (N+1) (aP (aF (aE S R) (ro R j)) (tgt S R j) (bK S j)) T pr':=(by rw [aH.out,D.out,z.out,bo.out];exact a9.out);have bi:=vV v.out a0 bc (by rw [D.out,z.out];exact aO.out) a7.out;have be:=(kS v.out.near a0).2.1;exact ⟨j,ax,wrap64 (mv+1),_,pr',by omega,rfl,by rw [be,z.out],by rw [aN.out,D.out,z.out],bi⟩
            case measure=>simp [intOf];have:=ay.out;omega
end
end Go.Proofs.YthldmddkfbijhaaGreatDoor
