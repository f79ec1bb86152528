/- Lemmas of the walk. Conditions: each its own. -/
import Derived.Test.YtnmapianpjamnaaGreatDoorPc21
import Derived.Test.YtnmapianpjamnaaGreatDoorPc22
import Derived.Test.YtnmapianpjamnaaGreatDoorProg
import Derived.Test.YtnmapianpjamnaaGreatDoorShl
import Derived.Test.YtnmapianpjamnaaGreatDoorShi
set_option linter.all false
set_option maxRecDepth 100000
set_option maxHeartbeats 4000000
open Go.Proofs.Tryz
namespace Go.Proofs.YtnmapianpjamnaaGreatDoor
section
open Go.RowKit Go.Shelf
open Go.Sort (Holds)
def sN (l gp:Nat) (p:Option Addr) (D q:Nat) (C:List (Nat×Nat)) (e f:Nat) (a:World) (d:PRd a l gp p D q C) (v:e < C.length) (x:f < C.length):
 Calls prog 186 #[(e:Int),(f:Int),l] a fun g w'=>g=.returned (.int .i64 (Lib.compareInt ((aB C e:Nat):Int) ((aB C f:Nat):Int)))/\∃b,w'=a.drewN b:=by
 obtain ⟨K,H,N,rfl,r,s⟩:=d.at v;obtain ⟨M,b1,O,c,t,u⟩:=d.at x;injection c with c;injection c with c e2;subst c e2;have I:=d.box;have J:=d.sl;obtain ⟨j,n⟩:=eqx (aB C e);obtain ⟨k,o⟩:=eqx (aB C f);rw [n] at r⊢;rw [o] at t⊢;obtain ⟨G,i⟩:=eqx (Lib.compareInt (j:Int) (k:Int));have A:∀b:Nat,Calls prog 187 #[(j:Int),(k:Int)] (a.drewN b) fun g w'=>g=.returned (.int .i64 G)/\∃E,w'=a.drewN E:=fun b=>by have m:=AnyG.cmp_Compare_int shCmp (j:Int) (k:Int) (a.drewN b);rw [i] at m;exact Calls.mono m fun _ _ ⟨y,z⟩=>⟨y,b,z⟩
 rw [i];clear d s u n o i;go_enter func186,ntmps186;go_wp2_with fail;go_quiet ((with_reducible exact A _));go_wp2_with fail;go_ret;exact ⟨rfl,_,rfl⟩
def aD9 {b g f d:Nat} (a:mvR b g f=mvR b g d):f=d:=by
 unfold mvR inR aQ at a;by_cases e:f=b
 · by_cases c:d=b;omega
   · rw [zBx e,zBw c] at a;split at a <;> split at a <;> omega
 · by_cases c:d=b
   · rw [zBw e,zBx c] at a;split at a <;> split at a <;> omega
   · rw [zBw e,zBw c] at a;split at a <;> split at a <;> split at a <;> split at a <;> omega
def aEV {a c b R:Nat} (d:a < R) (ht:c < R) (e:b < R):mvR a c b < R:=by
 unfold mvR inR aQ;split;exact ht
 · split <;> split <;> omega
def PermX.drewN {w:World} {F:Nat->Prop} {gp ga:Nat} {vl vo vt vf:Value} {R P:Nat} {ks:List Nat} {C:List (Nat×Nat)} {tk:List Bool} {fr:List Nat} (a:PermX w F gp ga vl vo vt vf R P ks C tk fr) (b:Nat):PermX (w.drewN b) F gp ga vl vo vt vf R P ks C tk fr:=
 { a with at_:=a.at_.below (below_drewN bR _)}
def PermX.sorted {w w':World} {F:Nat->Prop} {gp ga:Nat} {vl vo vt vf:Value} {R P:Nat} {ks l:List Nat} {C:List (Nat×Nat)} {tk:List Bool} {fr:List Nat} (g:PermX w F gp ga vl vo vt vf R P ks C tk fr) (j:l.Perm ks) (f:Keep (fun c=>vo.ownBlock=some c) w w') (q:w'.ownsRow 0 3 1 vo ks.length (l.map sv)):PermX w' F gp ga vl vo vt vf R P l C tk fr:=by
 have a:=g.at_;have i:∀c m d,Bk w c m d->m≠3->¬(vo.ownBlock=some c):=fun c m d b ht e=>by obtain ⟨s,o⟩:=dR a.orow e;exact ht (aJ b o).1
 refine { g with at_:=⟨f.bk a.blk (i _ _ _ a.blk dC),aA a.lrow fun c d _ b=>f.bk b (i _ _ _ b dC),by rw [j.length_eq];exact q,f.bk a.ar (i _ _ _ a.ar dC),aA a.trow fun c d _ b=>f.bk b (i _ _ _ b dC),aA a.frow fun c d b p=>f.bk p fun e=>?_,a.apart,fun n r=>a.lt n (j.subset r),a.lo⟩,nd:=j.nodup_iff.2 g.nd,tkk:=fun n=>(g.tkk n).trans j.mem_iff.symm };rcases a.apart with k | k
 · rw [k] at e;cases e
 exact k (e.trans b.symm)
def wN (F:Nat->Prop) (gp ga n R P:Nat) (vl vo vt vf:Value) (ks:List Nat) (C:List (Nat×Nat)) (tk:List Bool) (fr:List Nat) (w:World) (o:PermX w F gp ga vl vo vt vf R P ks C tk fr) (y:Bk w n 107 #[gp]) (ab:ks≠ []) (a7:∀r∈ks,∀s∈ks,aB C r=aB C s->r=s):
 ∃K m,vo=.slice K ks.length m/\Calls prog 154 #[.slice K ks.length m,.func (.func 186) #[] #[n]] w fun i w'=>i=.returned (.tuple #[])/\∃H,H.Perm ks/\H.Pairwise (fun b d=>aB C b < aB C d)/\PermX w' F gp ga vl vo vt vf R P H C tk fr/\Keep F w w':=by
 have G:0 < ks.length:=List.length_pos_iff.2 ab;have b:=o.at_;obtain ⟨g,m,i,_,E⟩:=World.ownsRow.form b.orow G;refine ⟨_,m,i,?_⟩;have U:=b.orow;rw [i] at U;obtain ⟨ai,D,a4,aa,a9,ak,a2⟩:=nU U G;obtain ⟨k0,a8⟩:∃e,e∈ks:=List.exists_mem_of_length_pos G;obtain ⟨a,A⟩:∃a,C.length=a+1:=⟨C.length - 1,by have:=b.lt k0 a8;omega⟩;have S:∀e∈ks,e < a+1:=fun e j=>by rw [<-A];exact b.lt e j
 have q:(dY a ks).size=ks.length:=by simp [dY]
 have a0:=lR (c:=a) D S (eM (by simp) oM a2);obtain ⟨M,Y,N,x,am⟩:=b.prd (y.cell 0) (Below.refl w.heap.size w);have a3:CmpReads prog 186 #[n] (dP a) (cfK a (aB C)) g 0 (dY a ks).size w:=fun I l v al r s=>by
  have e:=gI (enc:=dP a) (w:=w) E 0 I v l;have z:∀d J t,Bk w d J t->J≠3->¬(d=g):=fun d J t a1 ht p=>by subst p;exact ht (aJ a1 D).1
  have ad:PRd (sortWorld (dP a) w g 0 I v l) n gp M Y N C:=by refine ⟨((e.bk y (z _ _ _ y dC)).cell 0).trans rfl,((e.bk b.blk (z _ _ _ b.blk dC)).cell 1).trans (by rw [x];rfl),?_⟩;have Q:=aA (w':=sortWorld (dP a) w g 0 I v l) b.lrow fun d t _ j=>e.bk j (z _ _ _ j dC);rw [x] at Q;have Z:=aM b.lrow;obtain ⟨ag,ah,O,_⟩:=Z;rw [x] at O;injection O with e81 e82 e83;subst e82;exact Rd.of_own Q
  exact sN n gp M Y N C r.val s.val _ ad (by rw [A];exact r.isLt) (by rw [A];exact s.isLt)
 have X:=Any.slices_SortFunc shSort (dP a) (jB a) (cfK a (aB C)) (aDR a (aB C)) 186 #[n] g 0 m (dY a ks) w (enters_of func186 kR rfl) a3.lays a0 E (by rw [q];have:=eU o.nd b.lt;have:=o.sz;omega);rw [q] at X;refine X.mono ?_;rintro aj w' ⟨rfl,u,nq,l,W,af,rfl⟩;obtain ⟨V,ae⟩:=xM (f:=aB C) S (by rw [q];exact W) (by rw [q];exact af) o.nd a7;have a5:u.size=ks.length:=by rw [W.1,q]
 have j:=gI (enc:=dP a) (w:=w) E 0 nq u l;have ac:=aCD (base:=0) (k:=nq) (os:=l) u a5 D (zAp _) aa a9 a4;have a6:F g:=o.fo g (by rw [i];rfl);exact ⟨rfl,_,V,ae,o.sorted V (j.mono fun d _ p=>by rw [i,show d=g from p];rfl) (by rw [i];exact ac),j.mono fun d _ p=>by rw [show d=g from p];exact a6⟩
def bP (F:Nat->Prop) (gp R P b c:Nat) (pr:List (Nat×Nat)) (w:World) (au:PermE w F gp R P pr) (ay:b < R) (az:c < R) (aM:R<=100000) (aL:P<=100000) (aa:pr≠ []):
 Calls prog 110 #[gp,(b:Int),(c:Int)] w fun f w'=>f=.returned (.int .i64 0)/\(∃pr',pr'.Perm (pr.map fun e=>(mvR b c e.1,e.2))/\PermE w' F gp R P pr')/\Keep F w w':=by
 obtain ⟨⟨ga,vl,vo,vt,vf,ks,C,tk,fr,k,rfl⟩,ad,a0⟩:=au;have v:=k.at_;have a9:ks≠ []:=fun f=>aa (by rw [f];rfl);have aN:=v.blk.lt;have aR:decide ((b:Int) < 0)=false:=by simp
 have aS:decide ((c:Int) < 0)=false:=by simp
 have aT:¬R<=b:=oM;have aU:¬R<=c:=oM;have aV:¬(b:Int)>=(R:Int):=oM;have aW:¬(c:Int)>=(R:Int):=oM;obtain ⟨w1,o⟩:=eqx (((w.alloc (.cells #[gp] 107)).alloc (.cells #[(b:Int)] 3)).alloc (.cells #[(c:Int)] 3));have G:Below w.heap.size w w1:=by rw [<-o];exact ((bR.alloc nL _).alloc (by simp) _).alloc (by simp;omega) _
 have y:Bk w1 w.heap.size 107 #[gp]:=by rw [<-o];exact ((Bk.new w _ _).alloc _).alloc _
 have z:Bk w1 (w.heap.size+1) 3 #[(b:Int)]:=by rw [<-o];have:=(Bk.new (w.alloc (.cells #[gp] 107)) 3 #[(b:Int)]).alloc (.cells #[(c:Int)] 3);simpa using this
 have A:Bk w1 (w.heap.size+2) 3 #[(c:Int)]:=by rw [<-o];have:=Bk.new ((w.alloc (.cells #[gp] 107)).alloc (.cells #[(b:Int)] 3)) 3 #[(c:Int)];simpa using this
 have x:PermX w1 F gp ga vl vo vt vf R P ks C tk fr:= { k with at_:=v.below G };have ae:∀g,vl.ownBlock=some g->g < w.heap.size:=fun g m=>(v.lrow.lt g m).2;have aC:∀l,(w1.drewN l).cell? w.heap.size=some (.pointer (some gp)):=fun l=>(y.cell 0).trans rfl;have aD:∀l,(w1.drewN l).cell? ⟨w.heap.size+1,0,none⟩=some (.int .i64 (b:Int)):=fun l=>(z.cell 0).trans rfl;have aF:∀l,(w1.drewN l).cell? ⟨w.heap.size+2,0,none⟩=some (.int .i64 (c:Int)):=fun l=>(A.cell 0).trans rfl;have aH:w1.cell? w.heap.size=some (.pointer (some gp)):=(y.cell 0).trans rfl;have aI:w1.cell? ⟨w.heap.size+1,0,none⟩=some (.int .i64 (b:Int)):=(z.cell 0).trans rfl;have aJ:w1.cell? ⟨w.heap.size+2,0,none⟩=some (.int .i64 (c:Int)):=(A.cell 0).trans rfl;have aG:w1.cell? ⟨gp,3,none⟩=some (.int .i64 (R:Int)):=(x.at_.blk.cell 3).trans rfl;have aO:=x.at_.blk.lt;have X:∀a,a∈ks->aB C a < R/\aE C a < P:=fun a i=>a0 (aB C a,aE C a) (zAy.2 ⟨a,i,rfl⟩);have a4:∀e∈ks,∀q∈ks,aB C e=aB C q->e=q:=fun e ax q D f=>by have ac:=List.pairwise_map.1 ad;obtain ⟨r,a3,rfl⟩:=List.getElem_of_mem ax;obtain ⟨s,a5,rfl⟩:=List.getElem_of_mem D;rcases Nat.lt_trichotomy r s with j | j | j;have av:aB C ks[r] < aB C ks[s]:=zAr.1 ac r s a3 a5 j;omega;subst j;rfl;have av:aB C ks[s] < aB C ks[r]:=zAr.1 ac s r a5 a3 j;omega
 obtain ⟨d,O,am,ah,ai,aj,ak,ap,E⟩:=hqq9 x X a4 G y z A o ae;have ao:=lhd a9;clear k v ad a0 x X a4 G y z A o ae a9 aa;go_enter func110,ntmps110;go_wp2_with fail;rw [ap.out];go_quiet (fail)
 rename_i nq
 have aQ:∀(W:Fn) (first U:Array Value) (w:World),(Instr.makeFunc W first U).run prog w=.ok (.func W first U) w:=fun _ _ _ _=>rfl;go_wp2_with fail;have n:=d.out.drewN nq;have aw:=eU n.nd n.at_.lt;refine (oX 0 gp ga (w.heap.size+1) (w.heap.size+2) b c vl vo vt vf R P ks C tk fr _ n.at_ n.nd (by have:=n.sz;omega) (aj.out.drewN nq) (fun g m f=>by have:=E.out g m;omega) (ak.out.drewN nq) (fun g m f=>by have:=E.out g m;omega) (fun a i=>by have:=O.out a i;omega)).mono ?_;rintro f p ⟨rfl,J,t,K,I,Z⟩;have N:∀a,a∈ks->aB t a=mvR b c (aB C a):=fun a i=>(Prod.mk.inj (I a i)).1;have u:PermX p F gp ga vl vo vt vf R P ks t tk fr:=⟨Z,d.out.fp,d.out.fa,d.out.fl,d.out.fo,d.out.ft,d.out.ff,d.out.nd,by rw [K];exact d.out.tkl,d.out.tkk,d.out.frn,d.out.frk,by rw [K];exact d.out.sz⟩;have H:Bk p w.heap.size 107 #[gp]:=J.bk (ai.out.drewN nq) fun f=>by have:=E.out _ f;omega
 have a7:Keep F w p:=(Keep.of_below (below_drewN ah.out nq)).trans (J.mono fun g _ m=>d.out.fl g m);obtain ⟨ag,ar,V,a1⟩:=wN F gp ga w.heap.size R P vl vo vt vf ks t tk fr p u H ao.out (fun e k q D f=>am.out e k q D (aD9 (by rw [<-N e k,<-N q D,f])));have aq:p.cell? ⟨gp,2,none⟩=some (.slice ag ks.length ar):=(u.at_.blk.cell 2).trans (by rw [V];rfl);have aK:p.cell? w.heap.size=some (.pointer (some gp)):=(H.cell 0).trans rfl;have aP:=u.at_.blk.lt;obtain ⟨an,Q,al⟩:=hqq3 a7 I a1;clear a7 I a1 u H J K Z N n aw aH aI aJ aC aD aF aG V;go_wp2_with fail;refine al.out.mono ?_;rintro f af ⟨rfl,aA,M,ab,Y,a6⟩;have a2:(∃pr',pr'.Perm ((ks.map fun a=>(aB C a,aE C a)).map fun e=>(mvR b c e.1,e.2))/\PermE af F gp R P pr')/\Keep F w af:=by refine ⟨⟨_,?_,⟨ga,vl,vo,vt,vf,aA,t,tk,fr,Y,rfl⟩,List.pairwise_map.2 ab,fun e k=>?_⟩,an.out.trans a6⟩;refine (M.map _).trans ?_;rw [zCg];refine List.Perm.of_eq (List.map_congr_left fun a i=>?_);exact Q.out a i;obtain ⟨a,i,rfl⟩:=zAy.1 k;have a8:=M.subset i;have j:=O.out a a8;rw [Q.out a a8];exact ⟨aEV ay az j.1,j.2⟩
 have S:=lhd a2;clear a2 Y a6 M ab aq aK;go_wp2_with fail;go_ret;exact ⟨rfl,S.out.1,S.out.2⟩
end
section
open Go.RowKit Go.Shelf
def lJ:∀ {l m:List Nat},l.Nodup->(∀a∈l,a∈m)->l.length<=m.length
 | [],m,_,_=>zAp _
 | a::l,m,hn,hs=>by
   obtain ⟨f,g⟩:=List.nodup_cons.1 hn;have b:=hs a (by simp);have:=lJ (l:=l) (m:=m.erase a) g fun d c=>by have i:d≠a:=fun e=>f (by rw [<-e];exact c);exact (List.mem_erase_of_ne i).2 (hs d (by simp [c]))
   have j:=List.length_erase_of_mem b;have k:=List.length_pos_of_mem b;rw [zCf];omega
def aAA {a:List Nat} {f:Nat->Nat} (k:a.Pairwise (fun g i=>f g < f i)) (e:Nat) (p:∀b∈a,f b≠f e):(aI a (a.countP fun b=>decide (f b < f e)) e).Pairwise (fun g i=>f g < f i):=by
 unfold aI;have m:=fun (d b:Nat) (j:a[d]?=some b)=>aAK k (f e) d b j;obtain ⟨c,o⟩:∃c,(a.countP fun b=>decide (f b < f e))=c:=⟨_,rfl⟩;rw [o] at m⊢;rw [List.pairwise_append];refine ⟨k.sublist (List.take_sublist c a),List.pairwise_cons.2 ⟨fun b l=>?_,k.sublist (List.drop_sublist c a)⟩,fun b l r n=>?_⟩;obtain ⟨d,j,rfl⟩:=List.getElem_of_mem l;rw [zAw] at j;rw [List.getElem_drop];have s:=m (c+d) a[c+d] (zAa oM);have t:=p a[c+d] (zBj oM);omega;have q:f b < f e:=(by obtain ⟨d,j,rfl⟩:=List.getElem_of_mem l;rw [zAj] at j;rw [List.getElem_take];exact (m d a[d] (zAa oM)).2 oM);rcases List.mem_cons.1 n with rfl | n;exact q;have:=List.pairwise_append.1 (show (a.take c++a.drop c).Pairwise (fun g i=>f g < f i) by rw [zAu];exact k);exact this.2.2 b l r n
def yJ (tk:List Bool) (a:Nat) (b:Bool):(tk++ [true])[a]?=some b↔tk[a]?=some b∨(a=tk.length/\b=true):=by
 by_cases e:a < tk.length;rw [zAn e];constructor;exact .inl;rintro (d |⟨d,_⟩);exact d;omega
 · rw [zAo oM,zBg (show tk.length<=a by omega)];by_cases c:a=tk.length
   · subst c;cases b <;> simp
   · rw [zBg (by simp;omega)];simp [c]
def AF (ga:Nat) (vt vf:Value) (a:Nat):Prop:=a=ga∨vt.ownBlock=some a∨vf.ownBlock=some a
section
variable {w : World} {F : Nat -> Prop} {gp ga : Nat} {vl vo vt vf : Value} {R P : Nat} {ks : List Nat} {C : List (Nat × Nat)} {tk : List Bool} {fr : List Nat}
def PermX.arena (k:PermX w F gp ga vl vo vt vf R P ks C tk fr):ArenaE w (AF ga vt vf) ga tk fr:=by
 have a:=k.at_;obtain ⟨d,g,i,_⟩:=aM a.trow;obtain ⟨c,f,j,_⟩:=aM a.frow;subst i j;exact ⟨.inl rfl,d,g,c,f,a.ar,dO a.trow (zAp _),dO a.frow (zAp _),fun e b=>.inr (.inl b),fun e b=>.inr (.inr b)⟩
def PermX.af (c:PermX w F gp ga vl vo vt vf R P ks C tk fr) {b:Nat} (a:AF ga vt vf b):F b:=by
 rcases a with rfl | a | a;exact c.fa;exact c.ft b a;exact c.ff b a
def PermX.af_lt (c:PermX w F gp ga vl vo vt vf R P ks C tk fr) {b:Nat} (a:AF ga vt vf b):b < w.heap.size:=by
 rcases a with rfl | a | a;exact c.at_.ar.lt;exact (c.at_.trow.lt b a).2;exact (c.at_.frow.lt b a).2
def PermX.gp_af (e:PermX w F gp ga vl vo vt vf R P ks C tk fr):¬AF ga vt vf gp:=by
 have a:=e.at_;rintro (b | b | b);exact Bk.ne a.blk a.ar dC b;obtain ⟨d,c⟩:=dR a.trow b;exact absurd (aJ c a.blk).1 dC;obtain ⟨d,c⟩:=dR a.frow b;exact absurd (aJ c a.blk).1 dC
def PermX.pair_af (i:PermX w F gp ga vl vo vt vf R P ks C tk fr) {e:Nat} {f:Array Value} (c:Bk w e 179 f):¬AF ga vt vf e:=by
 have b:=i.at_;rintro (a | a | a);exact Bk.ne c b.ar dC a;obtain ⟨g,d⟩:=dR b.trow a;exact absurd (aJ d c).1 dC;obtain ⟨g,d⟩:=dR b.frow a;exact absurd (aJ d c).1 dC
def PermX.ord_af (g:PermX w F gp ga vl vo vt vf R P ks C tk fr) {e:Nat} (c:vo.ownBlock=some e):¬AF ga vt vf e:=by
 have b:=g.at_;obtain ⟨j,f⟩:=dR b.orow c;rintro (a | a | a);exact Bk.ne f b.ar dC a;obtain ⟨k,i⟩:=dR b.trow a;exact absurd (aJ f i).1 dC
 · rcases b.apart with d | d
   · rw [d] at c;cases c
   exact d (c.trans a.symm)
end
def yV (ga b:Nat) (vt vf:Value) (ks:List Nat) (w:World) (d:Ending) (w':World):Prop:=
 ∃(c:Nat) (tk:List Bool) (fr:List Nat),d=.returned (.tuple #[(c:Int),.int .i64 0])/\c∉ks/\ArenaE w' (Gw (AF ga vt vf) w.heap.size) ga tk fr/\((c < b/\tk.length=b)∨(c=b/\tk.length=b+1/\b<=ks.length))/\(∀a,tk[a]?=some true↔a∈ks∨a=c)/\fr.Nodup/\(∀a,a∈fr↔tk[a]?=some false)/\Keep (AF ga vt vf) w w'
def wM (F:Nat->Prop) (gp ga R P:Nat) (vl vo vt vf:Value) (ks:List Nat) (C:List (Nat×Nat)) (tk:List Bool) (fr:List Nat) (w:World) (b:PermX w F gp ga vl vo vt vf R P ks C tk fr):
 Calls prog 157 #[ga] w (yV ga C.length vt vf ks w):=by
 have V:=b.arena;have i:=b.at_;have ac:=b.sz;have E:∀a∈fr,a < tk.length:=fun a g=>(zAc.1 ((b.frk a).1 g)).1;rcases List.eq_nil_or_concat fr with a0 |⟨n,e,a1⟩
 · subst a0;obtain ⟨M,O,k,_⟩:=aM i.trow;obtain ⟨z,A,s,_⟩:=aM i.frow;have D:=i.ar;have y:=i.trow;rw [k,s] at D;rw [k] at y;have t:=jG 0 ga M O z A tk.length tk w D y (zAp _) (by have:=b.tkl;omega);refine t.mono ?_;rintro q w' ⟨rfl,o,ad,Y,K,a3⟩;have a7:tk.length∉ks:=fun v=>by have:=(b.tkk _).2 v;rw [zBg nL] at this;cases this
   obtain ⟨N,Q,r,_⟩:=aM K;have a5:Keep (AF ga vt vf) w w':=o.mono fun j _ c=>by rcases c with c | c;exact .inl c;exact .inr (.inl (by rw [k];exact c))
   have G:w'.ownsRow 0 3 1 vf 0 []:=by
    have:=aA (w':=w') (dO i.frow (zAp _)) fun j a9 _ d=>o.bk d fun c=>by rcases c with c | c;exact Bk.ne d i.ar dC c;obtain ⟨aa,Z⟩:=dR y c;exact absurd (aJ d Z).1 dC
    exact this
   rw [s] at G;have p:(tk++ [true]).length=tk.length+1:=(by simp);have x:=b.tkl;have X:C.length<=ks.length:=by
    have U:=lJ (l:=List.range C.length) (m:=ks) List.nodup_range fun a g=>by
        rw [zCi,<-x] at g;cases d:tk[a] with
        | true=>exact (b.tkk a).1 (by rw [zAa g,d])
        | false=>exact absurd ((b.frk a).2 (by rw [zAa g,d])) (by simp)
    simpa using U
   refine ⟨tk.length,tk++ [true], [],rfl,a7,⟨.inl (.inl rfl),N,Q,z,A,?_,?_,G,?_,?_⟩,.inr ⟨x,by rw [p,x],X⟩,fun a=>?_,List.nodup_nil,fun a=>?_,a5⟩;rw [p,<-r];exact Y;rw [p,<-r];exact K;intro j d;rw [p,<-r] at d;rcases a3 with c |⟨ab,c,S⟩;rw [c] at d;exact .inl (.inr (.inl (by rw [k];exact d)));rw [c] at d;injection d with d;subst d;exact .inr S;intro j d;exact .inl (.inr (.inr (by rw [s];exact d)))
   · rw [<-b.tkk a,yJ];simp
   · rw [b.frk a,yJ];simp
 · have a2:fr=n++ [e]:=(by simpa using a1);subst a2;have o:=(b.frk e).1 (by simp);have u:=E e (by simp);have I:=b.frn;have a6:(n++ [e]).length<=tk.length:=eU I E;have t:=oS (AF ga vt vf) ga e tk n w V u (by have:=b.tkl;omega) (by simp at a6;omega);refine t.mono ?_;rintro q w' ⟨rfl,W,a4⟩;have a8:e∉ks:=fun v=>by have:=(b.tkk e).2 v;rw [o] at this;cases this
   have J:=List.nodup_append.1 I;have H:∀a,(tk.set e true)[a]?=if a=e then some true else tk[a]?:=fun a=>by
    rw [zBm];by_cases f:e=a
    · subst f;simp [u]
    · rw [zBw f,zBw (fun q=>f q.symm)]
   refine ⟨e,tk.set e true,n,rfl,a8,W.mono fun j _ c=>.inl c,.inl ⟨by rw [<-b.tkl];exact u,by rw [zAt,b.tkl]⟩,fun a=>?_,J.1,fun a=>?_,a4⟩
   · rw [H,<-b.tkk a];by_cases f:a=e
     · simp [f]
     · simp [f]
   · rw [H];by_cases f:a=e
     · subst f;rw [zBx rfl];constructor;intro g;exact absurd rfl (J.2.2 a g a (by simp))
       · intro g;cases g
     · rw [zBw f,<-b.frk a];simp [f]
def PermX.stow {w w':World} {F:Nat->Prop} {gp ga R P k row pos i n0:Nat} {vl' vo':Value} {ks:List Nat} {C C9:List (Nat×Nat)} {tk:List Bool} {fr:List Nat} {AFF:Nat->Prop}
 (V:∀a∈ks,a < C.length) (X:ks.Nodup) (x:k∉ks) (u:k < C9.length) (H:C.length<=C9.length) (a2:C9.length<=1000) (a4:tk.length=C9.length)
 (Q:∀a∈ks,(aB C9 a,aE C9 a)=(aB C a,aE C a)) (a0:ks.Pairwise (fun d b=>aB C d < aB C b)) (t:i=ks.countP fun a=>decide (aB C a < row)) (Y:∀a∈ks,aB C a≠row)
 (m:Bk w' gp 186 #[ga,vl',vo',.int .i64 (R:Int),(P:Int)])
 (W:w'.ownsRow 0 179 2 vl' C9.length (bA (C9.set k (row,pos)))) (Z:w'.ownsRow 0 3 1 vo' (ks.length+1) ((aI ks i k).map sv))
 (l:ArenaE w' AFF ga tk fr) (q:∀b,AFF b->F b) (O:F ga) (S:F gp) (a6:OwnF F vl') (a7:OwnF F vo') (J:∀b,vo'.ownBlock=some b->¬AFF b)
 (a3:∀a,tk[a]?=some true↔a∈ks∨a=k) (N:fr.Nodup) (M:∀a,a∈fr↔tk[a]?=some false):
 ∃vt vf,PermX w' F gp ga vl' vo' vt vf R P (aI ks i k) (C9.set k (row,pos)) tk fr/\((aI ks i k).map fun a=>(aB (C9.set k (row,pos)) a,aE (C9.set k (row,pos)) a))=aI (ks.map fun a=>(aB C a,aE C a)) i (row,pos)/\(aI ks i k).Pairwise (fun d b=>aB (C9.set k (row,pos)) d < aB (C9.set k (row,pos)) b):=by
 obtain ⟨ac,a9,ab,a8,aa,A,D,E,G,p⟩:=l;have U:i<=ks.length:=by rw [t];exact zBh
 have r:∀a,(aB (C9.set k (row,pos)) a,aE (C9.set k (row,pos)) a)=if a=k then (row,pos) else (aB C9 a,aE C9 a):=fun a=>by
  unfold aB aE;rw [zAb,zBm];by_cases j:k=a;subst j;rw [zBx rfl,zBx rfl,zBx u];rfl
  · rw [zBw j,zBw (fun e=>j e.symm),zAb]
 have s:∀a∈ks,(aB (C9.set k (row,pos)) a,aE (C9.set k (row,pos)) a)=(aB C a,aE C a):=fun a c=>by rw [r,zBw (fun e=>x (by rw [<-e];exact c)),Q a c]
 have o:=r k;rw [zBx rfl] at o;have y:(aI ks i k).Perm (k::ks):=dQ _ _ _;have v:∀a,a∈aI ks i k↔a=k∨a∈ks:=fun a=>by rw [y.mem_iff,List.mem_cons]
 refine ⟨_,_,⟨⟨m,by rw [zAt];exact W,by rw [bB _ _ U];exact Z,A,D,E,?_,fun a c=>?_,⟨zAp _,zAp _⟩⟩,S,O,a6,a7,fun b n=>q b (G b n),fun b n=>q b (p b n),y.nodup_iff.2 (List.nodup_cons.2 ⟨x,X⟩),by rw [zAt];exact a4,fun a=>by rw [a3 a,v a];exact Or.comm,N,M,by rw [zAt];exact a2⟩,?_,?_⟩
 · cases a5:vo'.ownBlock with
   | none=>exact .inl rfl
   | some b=>exact .inr fun e=>J b a5 (p b e.symm)
 rw [zAt];rcases (v a).1 c with rfl | c;exact u;exact zAl (V a c) H;rw [jV,o];congr 1;exact List.map_congr_left fun a c=>s a c
 · have g:∀a∈ks,aB (C9.set k (row,pos)) a=aB C a:=fun a c=>(Prod.mk.inj (s a c)).1;have z:aB (C9.set k (row,pos)) k=row:=(Prod.mk.inj o).1;have a1:ks.Pairwise (fun d b=>aB (C9.set k (row,pos)) d < aB (C9.set k (row,pos)) b):=(by refine List.Pairwise.imp_of_mem (fun {d b} l m I=>?_) a0;rw [g d l,g b m];exact I);have:=aAA (f:=aB (C9.set k (row,pos))) a1 k fun a c=>by rw [g a c,z];exact Y a c
   have K:(ks.countP fun a=>decide (aB (C9.set k (row,pos)) a < aB (C9.set k (row,pos)) k))=i:=(by rw [t,z];refine List.countP_congr fun a c=>?_;rw [g a c]);rw [K] at this;exact this
def pY (w:World) (gp:Nat):Nat:=match w.cell? ⟨gp,1,none⟩ with
 | some (.slice _ a _)=>a
 | _=>0
structure AddL (F:Nat->Prop) (gp ga R P k:Nat) (vo:Value) (ks:List Nat) (C:List (Nat×Nat)) (tk:List Bool) (fr9:List Nat) (AFF:Nat->Prop) (n3:Nat) (w2 wr:World) (A9:Option Addr) (M c9:Nat) (C9:List (Nat×Nat)):Prop where
 blk:Bk wr gp 186 #[ga,.slice A9 M c9,vo,(R:Int),(P:Int)]
 own:wr.ownsRow 0 179 2 (.slice A9 M c9) M (bA C9)
 len:C9.length=M
 lo:C.length<=M
 hi:M<=max C.length (k+1)
 get:∀x∈ks,(aB C9 x,aE C9 x)=(aB C x,aE C x)
 ord:wr.ownsRow 0 3 1 vo ks.length (ks.map sv)
 ar:ArenaE wr AFF ga tk fr9
 keep:Keep F w2 wr
 fl:OwnF (Gw F w2.heap.size) (.slice A9 M c9)
 k3:n3<=wr.heap.size
def wT (F:Nat->Prop) (gp R P row r:Nat) (pr:List (Nat×Nat)) (w:World) (cC:PermE w F gp R P pr) (cU:row < R) (cT:r < P) (bU:∀E∈pr,E.1≠row) (bS:∀E∈pr,E.2≠r) (bO:pr.length<=900):
 Calls prog 73 #[gp,(row:Int),(r:Int)] w fun d w'=>d=.returned (.int .i64 0)/\(∃pr',pr'.Perm ((row,r)::pr)/\PermE w' (Gw F w.heap.size) gp R P pr')/\Keep F w w':=by
 obtain ⟨⟨ga,vl,vo,vt,vf,ks,C,tk,fr,u,rfl⟩,c1,bB⟩:=cC;obtain ⟨d1,cN,cY,cZ,d0⟩:=info_parts nS;have Q:=u.at_;have c0:=List.pairwise_map.1 c1;have b1:ks.Pairwise (fun Q a=>aB C Q < aB C a):=c0;have aZ:∀c∈ks,aB C c≠row:=fun c v=>bU _ (zAy.2 ⟨c,v,rfl⟩);have bT:∀c∈ks,aE C c≠r:=fun c v=>bS _ (zAy.2 ⟨c,v,rfl⟩);have bC:∀c∈ks,aB C c < R/\aE C c < P:=fun c v=>bB _ (zAy.2 ⟨c,v,rfl⟩);have cO:ks.length<=900:=by simpa using bO
 obtain ⟨Z,ah⟩:∃Z,(ks.countP fun c=>decide (aB C c < row))=Z:=⟨_,rfl⟩;have bJ:Z<=ks.length:=by rw [<-ah];exact zBh
 have bH:decide (∃c∈ks,aB C c=row)=false:=by rw [decide_eq_false_iff_not];rintro ⟨c,v,d⟩;exact aZ c v d
 have bI:fU (fun c=>decide (aE C c=r)) ks 0=-1:=gZ (fun c v=>by simpa using bT c v) 0;have aL:=lZ 0 gp ga vl vo vt vf R P ks C tk fr row w Q b1 oM;rw [ah,bH] at aL;have aW:=fun ct cI=>fS 0 gp ga vl vo vt vf R P ks C tk fr r ct cI oM;simp only [bI] at aW;have cv:w.cell? ⟨gp,3,none⟩=some (.int .i64 (R:Int)):=(Q.blk.cell 3).trans rfl;have cw:w.cell? ⟨gp,4,none⟩=some (.int .i64 (P:Int)):=(Q.blk.cell 4).trans rfl;obtain ⟨K,aY⟩:=eqx ks.length;obtain ⟨O,aH⟩:=eqx C.length;have dj:K<=900:=oM;have dd:O<=1000:=by rw [<-aH];exact u.sz
 obtain ⟨bm,au,cq,cm,ce,ch,Hn,z⟩:=hqq8 aW u b1 aZ bC ah aY aH;rw [aY] at bJ;clear c0 bH bI aW c1 bB bU bS aZ bT bC u Q b1 ah bO cO aY aH;go_enter func73,ntmps73;go_wp2_with fail;refine aL.mono ?_;clear aL;rintro d w1 ⟨rfl,aP⟩;have ac:=au.out.at_.below aP;obtain ⟨aq,av⟩:=hqq2 ac aP;clear ac aP cv cw;go_wp2_with fail;refine (bm.out w1 aq.out).mono ?_;rintro d n ⟨rfl,aQ⟩;have bz:=av.out.trans (aQ.mono av.out.size);have bb:PermX n F gp ga vl vo vt vf R P ks C tk fr:= { au.out with at_:=aq.out.below aQ };have cu:n.cell? gp=some (.pointer (some ga)):=(bb.at_.blk.cell 0).trans rfl;obtain ⟨l,bh⟩:=hqq2 bb bz;clear bb bz aQ aq av bm au;go_wp2_with fail;have aI:=wM F gp ga R P vl vo vt vf ks C tk fr n l.out;unfold yV at aI;refine aI.mono ?_;clear aI;rintro d s ⟨c,a7,a0,rfl,bQ,bu,bD,c2,bG,bF,V⟩;have a3:=V.bk l.out.at_.blk l.out.gp_af;have al:=aA (w':=s) l.out.at_.lrow fun a e _ b=>V.bk b (l.out.pair_af b);have am:=aA (w':=s) l.out.at_.orow fun a e b v=>V.bk v (l.out.ord_af b);obtain ⟨ap,az,c3,_⟩:=aM al;obtain ⟨a8,ab,J,_⟩:=aM am;have b6:vl=.slice ap O az:=by rw [c3,z.out]
 have c5:vo=.slice a8 K ab:=by rw [J,Hn.out]
 rw [z.out] at al;rw [Hn.out] at am;have S:s.cell? ⟨gp,1,none⟩=some (.slice ap O az):=(a3.cell 1).trans (by rw [b6];rfl);have aF:=a3.frozen 1;have cL:=a3.lt;have di:c<=O:=by have:=z.out;omega
 have bL:Keep F n s:=V.mono fun a _ g=>l.out.af g;obtain ⟨ci,bo⟩:=hqq2 V bL;have be:=lhd (bu.mono (G:=fun a=>Gw (AF ga vt vf) n.heap.size a/\a < s.heap.size) fun a b g=>⟨g,b⟩);obtain ⟨bi,bj,bq,br,aw,d7,cl,cr,cg⟩:=hqq9 bD a3 al am b6 c5 bQ c2 bG;have cf:=lhd bF;have bt:=(World.cell?_alloc_lt s (Obj.cells #[.int .i64 0,.int .i64 0] 179) ⟨gp,1,none⟩ cL).trans S;clear V bL bu bD a3 al am c3 J b6 c5 bQ c2 bG bF cu;have bK:AddL F gp ga R P c vo ks C a7 a0 (fun a=>Gw (AF ga vt vf) n.heap.size a/\a < s.heap.size) s.heap.size n s ap O az C:=
  ⟨by have:=bj.out;rwa [aw.out] at this,by have:=bq.out;rwa [aw.out] at this,z.out,by rw [z.out];exact zAs _,by have:=z.out;omega,fun E _=>rfl,by rw [Hn.out];exact br.out,be.out,bo.out,fun a b=>.inl (l.out.fl a (by rw [aw.out];exact b)),zAs _⟩
 have bn:=lhd bK;clear bK S aF bt;go_wp2_with fail;go_loopw [] (fun wr=>∃D f x t,AddL F gp ga R P c vo ks C a7 a0 (fun a=>Gw (AF ga vt vf) n.heap.size a/\a < s.heap.size) s.heap.size n wr D f x t) (fun wr=>c+1 - pY wr gp)
 case atStart=>exact ⟨_,_,_,_,bn.out⟩
 case round=>
  obtain ⟨D,f,x,t,q⟩:=hrel;clear bn bj bq br be bo ci;have S:wr.cell? ⟨gp,1,none⟩=some (.slice D f x):=(q.blk.cell 1).trans rfl;have aF:=q.blk.frozen 1;have cM:=q.blk.lt;have cE:=q.len;have cF:=q.lo;have cG:=q.hi;rw [z.out] at cF cG;by_cases bP:f<=c
  · have cP:decide (f<=c)=true:=zBz bP;have cQ:(f:Int)<=(c:Int):=oM;obtain rfl:f=O:=oM;have bt:=(World.cell?_alloc_lt wr (Obj.cells #[.int .i64 0,.int .i64 0] 179) ⟨gp,1,none⟩ cM).trans S;have bY:pY wr gp=f:=(by unfold pY;rw [S]);obtain ⟨m,co⟩:=hqq2 q bY;clear q bY;go_wp2_with (at_builtin;refine cW _ rfl (.tmp 72) (.tmp 74) _ rfl 0 179 d1 (.agg #[.int .i64 0,.int .i64 0]) 2 16 underlying99 cN cY cZ d0 rfl dC (.slice D f x) f _ rfl m.out.own rfl rfl (by simp [Value.oneCell']) (by unfold maxLen;omega) oM (zAp _) ?_;intro dr A b0 aT dm bx;have ad:=m.out.blk.grown aT (aR m.out.own m.out.blk dC);have d9:A.cell? ⟨gp,1,none⟩=some (.slice D f x):=(ad.cell 1).trans rfl;have db:=ad.frozen 1;obtain ⟨H,I,rfl,cR⟩:=bE b0;obtain ⟨a9,bp,N,bf⟩:=hqq4 ad b0 aT bx;clear cR b0 aT bx ad);have a5:Keep (fun a=>(Value.slice D f x).ownBlock=some a) wr A:=⟨N.out.os,N.out.tape,N.out.output,N.out.size,fun a b ak=>N.out.block a b fun d=>ak d.symm⟩
    have aG:AddL F gp ga R P c vo ks C a7 a0 (fun a=>Gw (AF ga vt vf) n.heap.size a/\a < s.heap.size) s.heap.size n (A.setCell ⟨gp,1,none⟩ (.slice H (f+1) I)) H (f+1) I (t++ [(0,0)]):=by
        have L:=m.out;have U:∀a j e,j≠186->Bk A a j e->Bk (A.setCell ⟨gp,1,none⟩ (.slice H (f+1) I)) a j e:=fun a j e ht b=>b.far (p:=⟨gp,1,none⟩) (Bk.ne b a9.out ht) _;have dk:∀a,(Value.slice D f x).ownBlock=some a->Gw F n.heap.size a:=fun a b=>L.fl a b;have ak:∀a j e,j≠179->Bk wr a j e->¬((Value.slice D f x).ownBlock=some a):=fun a j e ht b d=>by obtain ⟨cx,aS⟩:=dR L.own d;exact ht (aJ b aS).1
        refine ⟨a9.out.set 1 _,?_,by rw [zAi,L.len];rfl,by have:=L.lo;omega,by omega,fun E u=>?_,?_,?_,?_,?_,?_⟩;rw [gX];exact aA bp.out fun a e _ b=>U _ _ _ dC b
        · rw [<-L.get E u];have dp:=l.out.at_.lt E u;unfold aB aE;rw [zAb,zAb,zAn (by have:=L.lo;have:=L.len;omega)]
        exact aA L.ord fun a e _ b=>U _ _ _ dC (a5.bk b (ak _ _ _ dC b));refine (L.ar.keep a5 fun a j e ht b _=>ak a j e (fun d=>by subst d;revert ht;decide) b).keep (G:=fun a=>a=gp) (Keep.setCell (F:=fun a=>a=gp) (Keep.refl _ _) (p:=⟨gp,1,none⟩) (.inl rfl) _) fun a j e ht b _ d=>?_;have aD:a=gp:=d;subst aD;rw [(aJ b a9.out).1] at ht;revert ht;decide;refine Keep.setCell (F:=F) (L.keep.trans' a5 fun a b g=>?_) (p:=⟨gp,1,none⟩) (.inl l.out.fp) _;rcases L.fl a g with y | y;exact y;omega;intro a b;rcases bf.out with d | d;rw [d] at b;exact L.fl a b;rw [d] at b;injection b with b;subst b;exact .inr (by have:=L.keep.size;omega);have ac:=L.k3;have cD:=a5.size;have dc:(A.setCell ⟨gp,1,none⟩ (.slice H (f+1) I)).heap.size=A.heap.size:=(by simp [World.setCell]);omega
    have bZ:pY (A.setCell ⟨gp,1,none⟩ (.slice H (f+1) I)) gp=f+1:=(by have cy:(A.setCell ⟨gp,1,none⟩ (.slice H (f+1) I)).cell? ⟨gp,1,none⟩=some (.slice H (f+1) I):=(aG.blk.cell 1).trans rfl;unfold pY;rw [cy]);obtain ⟨cb,cp⟩:=hqq2 aG bZ;clear aG bZ a5 a9 bp N bf m;go_roundw
    case rel=>exact ⟨_,_,_,_,cb.out⟩
    case measure=>rw [co.out,cp.out];omega
  · have cP:decide (f<=c)=false:=zBy bP;have cQ:¬(f:Int)<=(c:Int):=oM;have a6:c < f:=oM;have dh:(c:Int) < (f:Int):=oM;obtain ⟨o,dq,b2,_,de⟩:=World.ownsRow.form q.own oM;injection b2 with b2 _ hs9c;subst b2 hs9c;obtain ⟨d8,a2⟩:=cK q.own;have dg:gp≠o:=Bk.ne q.blk a2 dC;have d5:=a2.frozen (c*2);have d6:=a2.frozen (c*2+1);obtain ⟨bc,bd⟩:=bV t c (by rw [cE];exact a6);have c9:=(World.ownsRow.cellAt q.own (c*2) oM).trans bc;have ca:=(World.ownsRow.cellAt q.own (c*2+1) oM).trans bd;generalize aB t c=u0 at c9 bc;generalize aE t c=u1 at ca bd;obtain ⟨a8,ab,J,_⟩:=aM q.ord;rw [Hn.out] at J;have aC:wr.cell? ⟨gp,2,none⟩=some (.slice a8 K ab):=(q.blk.cell 2).trans (by rw [J];rfl);obtain ⟨m,cd,aa⟩:=hqq3 q a2 J;clear q a2 J bc bd;go_wp2_with fail;have b7:((wr.setCell ⟨o,c*2,none⟩ (.int .i64 (row:Int))).setCell ⟨o,c*2+1,none⟩ (.int .i64 (r:Int))).ownsRow 0 179 2 (.slice (some o) f x) f (bA (t.set c (row,r))):=(by have c8:=(World.ownsRow.stored m.out.own (c*2) (.int .i64 (row:Int))).1;rw [gY t c row (by rw [m.out.len];exact a6)] at c8;have an:=(World.ownsRow.stored c8 (c*2+1) (.int .i64 (r:Int))).1;rw [jR _ c r (by rw [zAt,m.out.len];exact a6)] at an;rw [List.set_set] at an;have cz:aB (t.set c (row,aE t c)) c=row:=(by unfold aB;rw [zAb,List.getElem?_set_self (by rw [m.out.len];exact a6)];rfl);rw [cz] at an;exact an);have X:Keep (fun a=>a=o) wr ((wr.setCell ⟨o,c*2,none⟩ (.int .i64 (row:Int))).setCell ⟨o,c*2+1,none⟩ (.int .i64 (r:Int))):=((Keep.refl (fun a=>a=o) wr).setCell (p:=⟨o,c*2,none⟩) (.inl rfl) _).setCell (p:=⟨o,c*2+1,none⟩) (.inl rfl) _;have b4:((wr.setCell ⟨o,c*2,none⟩ (.int .i64 (row:Int))).setCell ⟨o,c*2+1,none⟩ (.int .i64 (r:Int))).heap.size=wr.heap.size:=(by simp [World.setCell]);rw [<-b4];clear c9 ca d5 d6 S aC aF;generalize (wr.setCell ⟨o,c*2,none⟩ (.int .i64 (row:Int))).setCell ⟨o,c*2+1,none⟩ (.int .i64 (r:Int))=w7 at b7 X b4⊢;have aj:∀a j e,j≠179->Bk wr a j e->¬(a=o):=fun a j e ht b d=>by subst d;exact ht (aJ b cd.out).1
    have aV:=X.bk m.out.blk (aj _ _ _ dC m.out.blk);have b9:=aA (w':=w7) m.out.ord fun a e _ b=>X.bk b (aj _ _ _ dC b);have bv:=m.out.ar.keep X fun a j e ht b _=>aj a j e (fun d=>by subst d;revert ht;decide) b;have bM:Keep F n w7:=m.out.keep.trans' X fun a b g=>by have cA:a=o:=g;rcases m.out.fl a (by rw [cA];rfl) with y | y;exact y;omega
    have a1:Below w7.heap.size w7 (w7.alloc (.cells #[(c:Int)] 3)):=bR.alloc nL _;have ag:=Bk.new w7 3 #[(c:Int)];have Y:=aO b9 a1;have b8:=aO b7 a1;have ae:=aV.below a1 aV.lt;have aK:=bv.keep (G:=fun _=>False) (Keep.of_below a1) fun _ _ _ _ _ _ g=>g;have ai:Keep F n (w7.alloc (.cells #[(c:Int)] 3)):=bM.alloc _;obtain ⟨cB,aU⟩:=eqx w7.heap.size;rw [aU] at ag;rw [aU];have c7:∀a,vo.ownBlock=some a->a < w7.heap.size:=fun a b=>(b9.lt a b).2;rw [Hn.out,aa.out] at Y;have ba:wr.heap.size<=(w7.alloc (.cells #[(c:Int)] 3)).heap.size:=(by simp;omega);have bs:=lhd ba;clear ba;generalize w7.alloc (.cells #[(c:Int)] 3)=w8 at bs ag Y b8 ae aK ai⊢;have aX:=sQ 0 a8 K ab Z ks cB c w8 Y ag (fun a b d=>by have:=c7 a (by rw [aa.out];exact b);omega) (zAp _) bJ oM;unfold nK at aX;refine aX.mono ?_;clear aX;rintro d M ⟨ao,ay,rfl,bW,W,aN⟩;rw [<-aa.out] at W aN Y;have b5:∀a j e,j≠3->Bk w8 a j e->¬(vo.ownBlock=some a):=fun a j e ht b d=>by obtain ⟨cx,aS⟩:=dR Y d;exact ht (aJ b aS).1
    have a4:=W.bk ae (b5 _ _ _ dC ae);have c4:=aA (w':=M) b8 fun a e _ b=>W.bk b (b5 _ _ _ dC b);have c6:∀a,vo.ownBlock=some a->¬(Gw (AF ga vt vf) n.heap.size a/\a < s.heap.size):=fun a b g=>by rcases g.1 with g | g;exact l.out.ord_af b g;have:=(l.out.at_.orow.lt a b).2;omega
    have bw:=aK.keep W fun a j e _ _ g d=>c6 a d g;have bN:Keep F n M:=ai.trans' W fun a _ g=>l.out.fo a g;have aC:M.cell? ⟨gp,2,none⟩=some vo:=(a4.cell 2).trans rfl;rw [aa.out] at aC;have da:=a4.frozen 2;have df:=a4.lt;obtain ⟨bl,cs,cc,ck,cn,bg,cj⟩:=hqq7 a4 c4 bw bN bW aN ai;clear a4 c4 bw bN bW aN ai W Y b8 ae aK ag a1 bM bv b9 aV X b7 b4 aU c7 b5 aj;go_wp2_with fail;go_ret;have b3:Keep (fun a=>a=gp) M (M.setCell ⟨gp,2,none⟩ (.slice ao (K+1) ay)):=Keep.setCell (F:=fun a=>a=gp) (Keep.refl _ _) (p:=⟨gp,2,none⟩) (.inl rfl) _;have U:∀a j e,j≠186->Bk M a j e->¬(a=gp):=fun a j e ht b d=>by subst d;exact ht (aJ b bl.out).1
    have dl:=bh.out.size;have dn:=cj.out.size;have ba:=bs.out;have cH:f<=1000:=(by rcases bi.out with ax | ax;have:=z.out;omega;have:=z.out;have:=Hn.out;omega);have cS:∀a,Gw F n.heap.size a->Gw F w.heap.size a:=fun a g=>by rcases g with g | g;exact .inl g;exact .inr oM
    have L:=m.out
    obtain ⟨d3,d2,cJ,bX,cV⟩:=PermX.stow (w:=w) (w':=M.setCell ⟨gp,2,none⟩ (.slice ao (K+1) ay)) (F:=Gw F w.heap.size) (gp:=gp) (ga:=ga) (R:=R) (P:=P) (k:=c) (row:=row) (pos:=r) (i:=Z) (n0:=0) (vl':=.slice (some o) f x) (vo':=.slice ao (K+1) ay) (ks:=ks) (C:=C) (C9:=t) (tk:=a7) (fr:=a0) (AFF:=fun a=>Gw (AF ga vt vf) n.heap.size a/\a < s.heap.size)
        l.out.at_.lt l.out.nd cl.out (by rw [L.len];exact a6) (by rw [L.len];exact L.lo) (by rw [L.len];exact cH) (by
         rw [L.len];rcases bi.out with ax | ax;have:=L.lo;have:=L.hi;omega
         · have:=L.lo;have:=L.hi;omega) L.get cq.out ch.out.symm cm.out (bl.out.set 2 _)
        (by rw [L.len];exact aA cs.out fun a e _ b=>b3.bk b (U _ _ _ dC b))
        (by rw [Hn.out];exact aA cn.out fun a e _ b=>b3.bk b (U _ _ _ dC b))
        (cc.out.keep b3 fun a j e ht b _=>U a j e (fun d=>by subst d;revert ht;decide) b)
        (fun a g=>by
         rcases g.1 with y | y;exact .inl (l.out.af y)
         · exact .inr oM)
        (.inl l.out.fa) (.inl l.out.fp) (fun a b=>cS a (L.fl a b))
        (fun a b=>by
         rcases bg.out with d |⟨y,d,aD⟩;exact .inl (l.out.fo a (by rw [<-d];exact b))
         · rw [d] at b;injection b with b;subst b;exact .inr oM)
        (fun a b g=>by
         rcases bg.out with d |⟨y,d,aD⟩;exact c6 a (by rw [<-d];exact b) g
         · rw [d] at b;injection b with b;subst b;have ac:=g.2;have cD:=L.k3;omega)
        cr.out cg.out cf.out
    refine ⟨rfl,⟨_,?_,⟨ga,_,_,d3,d2,_,_,a7,a0,cJ,rfl⟩,List.pairwise_map.2 cV,fun E u=>?_⟩,(Keep.of_below bh.out).trans (Keep.setCell (F:=F) ck.out (p:=⟨gp,2,none⟩) (.inl l.out.fp) _)⟩;rw [bX];exact dQ _ _ _;rw [bX] at u;rcases List.mem_cons.1 ((dQ _ _ _).subset u) with rfl | u;exact ⟨cU,cT⟩;obtain ⟨d4,cX,rfl⟩:=zAy.1 u;exact ce.out d4 cX
def PermE.inj {w:World} {F:Nat->Prop} {gp R P:Nat} {pr:List (Nat×Nat)} (f:PermE w F gp R P pr) {d e:Nat×Nat} (j:d∈pr) (k:e∈pr) (l:d.1=e.1):d=e:=by
 obtain ⟨b,g,rfl⟩:=List.getElem_of_mem j;obtain ⟨c,i,rfl⟩:=List.getElem_of_mem k;rcases Nat.lt_trichotomy b c with a | a | a;have:=zAr.1 f.2.1 b c g i a;omega;subst a;rfl;have:=zAr.1 f.2.1 c b i g a;omega
def VisF.mono {F G:Nat->Prop} {w w':World} (b:VisF F w w') (e:∀a,a < w.heap.size->F a->G a):VisF G w w':=⟨b.os,b.tape,b.output,b.size,fun a c f=>b.block a c fun d=>f (e a c d)⟩
def VisF.trans' {F c:Nat->Prop} {w w1 w':World} (f:VisF F w w1) (j:VisF c w1 w') (i:∀a,a < w.heap.size->c a->F a):VisF F w w':=by
 have g:=VisF.trans (F:=fun a=>F a∨w.heap.size<=a) (f.mono fun a _ b=>.inl b) (j.mono fun a _ e=>by
  by_cases d:a < w.heap.size;exact .inl (i a d e)
  · exact .inr oM)
 exact g.mono fun a l b=>b.elim id fun k=>by omega
structure LF (B:Nat) (w w':World) (own own':Nat->Nat):Prop where
 old:∀b,b < w.heap.size->own' b=own b
 vis:VisF (fun b=>own b≠0) w w'
 keep:Keep (fun b=>B<=b) w w'
def LF.refl (B:Nat) (w:World) (own:Nat->Nat):LF B w w own own:=⟨fun _ _=>rfl,VisF.of_vis (Vis.refl w),Keep.refl _ _⟩
def LF.trans {B:Nat} {w w1 w':World} {own e own':Nat->Nat} (a:LF B w w1 own e) (d:LF B w1 w' e own'):LF B w w' own own':=by
 have g:=a.keep.size;refine ⟨fun b c=>(d.old b oM).trans (a.old b c),a.vis.trans' d.vis fun b c f=>?_,a.keep.trans d.keep⟩;rw [<-a.old b c];exact f
def LF.of_vb {B:Nat} {w w':World} {own:Nat->Nat} (a:VB B w w'):LF B w w' own own:=⟨fun _ _=>rfl,VisF.of_vis a.1,a.2⟩
structure LiveM (w:World) (B:Nat) (own:Nat->Nat) (gl gk gp rate:Nat) (mv:Int) (R P:Nat) (L T:List Nat) (pr:List (Nat×Nat)):Prop where
 blk:Bk w gl 109 #[gk,gp,(rate:Int),.int .i64 mv]
 col:own gl=3
 walk:WalkE w B own gk L T
 perm:PermE w (fun b=>own b=1) gp R P pr
section
variable {w w' : World} {B : Nat} {own own' : Nat -> Nat} {gl gk gp rate : Nat} {mv : Int} {R P R' P' : Nat} {L T L' T' : List Nat} {pr pr' : List (Nat × Nat)}
def LiveM.bnd (b:LiveM w B own gl gk gp rate mv R P L T pr):∀a,own a≠0->B<=a/\a < w.heap.size:=b.walk.bnd
def LiveM.lo (a:LiveM w B own gl gk gp rate mv R P L T pr):B<=gl:=(a.bnd gl (by rw [a.col];decide)).1
def LiveM.gw (c:LiveM w B own gl gk gp rate mv R P L T pr):∃a b,Bk w gk 148 #[.pointer (some ⟨a,0,none⟩),.pointer (some ⟨b,0,none⟩)]/\WaveAt w B a L:=by
 obtain ⟨a,b,d,_,e,_⟩:=c.walk;exact ⟨a,b,d,e.at⟩
def LiveM.vis (a:LiveM w B own gl gk gp rate mv R P L T pr) (b:Vis w w'):LiveM w' B own gl gk gp rate mv R P L T pr:=
 ⟨b.bk a.blk dC dC,a.col,a.walk.vis b,a.perm.vis b⟩
def LiveM.walkOp (c:LiveM w B own gl gk gp rate mv R P L T pr) (f:WalkE w' B own' gk L' T') (a:Grew w w' own own'):LiveM w' B own' gl gk gp rate mv R P L' T' pr/\LF B w w' own own':=by
 have e:=c.bnd;refine ⟨⟨a.keep.bk c.blk (fun d=>by have:=c.col;omega),by rw [a.old _ c.blk.lt];exact c.col,f,(c.perm.keep a.keep fun b d=>by omega).mono fun b _ d=>?_⟩,a.old,VisF.of_keep (a.keep.mono fun b _ d=>by omega),a.keep.mono fun b _ d=>(e b oM).1⟩;rw [a.old b (e b oM).2];exact d
def LiveM.permOp (c:LiveM w B own gl gk gp rate mv R P L T pr) (l:PermE w' (Gw (fun a=>own a=1) w.heap.size) gp R' P' pr') (e:Keep (fun a=>own a=1) w w'):LiveM w' B (cB own w.heap.size w'.heap.size 1) gl gk gp rate mv R' P' L T pr'/\LF B w w' own (cB own w.heap.size w'.heap.size 1):=by
 have g:=c.bnd;have j:∀a,a < w.heap.size->cB own w.heap.size w'.heap.size 1 a=own a:=fun a i=>by unfold cB;rw [zBx i]
 have hB:B<=w.heap.size:=by have:=c.lo;have:=c.blk.lt;omega
 have n:=e.size;refine ⟨⟨e.bk c.blk (fun b=>by have:=c.col;omega),by rw [j _ c.blk.lt];exact c.col,(c.walk.far e fun a b=>⟨by omega,by omega⟩).paint (fun a i m=>?_) (fun a d=>?_),l.mono fun a i b=>?_⟩,j,VisF.of_keep (e.mono fun a _ b=>by omega),e.mono fun a _ b=>(g a oM).1⟩;by_cases f:a < w.heap.size;exact j a f;have:=(g a oM).2;omega;unfold cB at d;by_cases f:a < w.heap.size;rw [zBx f] at d;have:=g a d;exact ⟨this.1,by omega⟩;rw [zBw f] at d;by_cases k:a < w'.heap.size;exact ⟨by omega,k⟩;rw [zBw k] at d;exact absurd rfl d
 · rcases b with b | b;rw [j a (g a oM).2];exact b
   · unfold cB;rw [zBw oM,zBx i]
def LiveM.setMv (c:LiveM w B own gl gk gp rate mv R P L T pr) (f:Int):LiveM (w.setCell ⟨gl,3,none⟩ (.int .i64 f)) B own gl gk gp rate f R P L T pr/\LF B w (w.setCell ⟨gl,3,none⟩ (.int .i64 f)) own own:=by
 have e:Keep (fun a=>a=gl) w (w.setCell ⟨gl,3,none⟩ (.int .i64 f)):=Keep.setCell (F:=fun a=>a=gl) (Keep.refl _ _) (p:=⟨gl,3,none⟩) (.inl rfl) _;have i:=c.col;refine ⟨⟨c.blk.set 3 _,c.col,c.walk.far e fun a b=>?_,c.perm.keep e fun a b g=>?_⟩,fun _ _=>rfl,VisF.of_keep (e.mono fun a _ b=>?_),e.mono fun a _ b=>?_⟩;have g:a=gl:=b;subst g;exact ⟨by omega,by omega⟩;have d:a=gl:=g;subst d;omega;have d:a=gl:=b;subst d;show own a≠0;omega;have d:a=gl:=b;subst d;exact c.lo
def LiveM.len (b:LiveM w B own gl gk gp rate mv R P L T pr):LvW w B gl L∨¬T.Perm L:=by
 by_cases a:T.Perm L;exact .inl ⟨gk,_,_,_,b.blk,b.walk.at a⟩;exact .inr a
def LiveM.permR (d:LiveM w B own gl gk gp rate mv R P L T pr):PermR w gp R P pr:=by
 obtain ⟨⟨ga,vl,vo,vt,vf,ks,C,tk,fr,a,b⟩,c,f⟩:=d.perm;rw [b] at c;have e:=List.pairwise_map.1 c;have g:=eU a.nd a.at_.lt;exact ⟨0,ga,vl,vo,vt,vf,ks,C,tk,fr,a.at_,e,a.sz,by have:=a.sz;omega,b⟩
def LiveM.g (a:LiveM w B own gl gk gp rate mv R R L T pr) (b:T.Perm L):LiveG w B gl gk gp rate R L pr:=⟨⟨mv,a.blk⟩,a.walk.at b,a.permR⟩
end
section
variable {w : World} {B : Nat} {own : Nat -> Nat} {gl gk gp rate : Nat} {mv : Int} {R P : Nat} {L T : List Nat} {pr : List (Nat × Nat)}
def pN (a b:Nat) (c:LiveM w B own gl gk gp rate mv R P L T pr) (g:L[a]?=some b) (f:∀n∈L,n < 257) (m:L.length<=1000) (l:T.length<=1000):
 Calls prog 108 #[gl,(a:Int)] w fun e w'=>e=.returned (.int .i64 ((mO L T b a:Nat):Int))/\VB B w w':=by
 have d:=lL B gk L T a b w c.walk.atT g f m l;have o:=c.blk.cell 0;obtain ⟨p,i⟩:=eqx (mO L T b a);rw [i] at d⊢;clear c g f i;go_enter func108,ntmps108;go_wp2_with fail;refine d.mono ?_;rintro e w' ⟨rfl,j⟩;have k:=lhd j;clear d j;go_wp2_with fail;go_ret;exact ⟨rfl,k.out⟩
def kJ (b:Nat) (w:World) (gl:Nat):
 Calls prog 97 #[gl,.int .i64 0,(b:Int)] w fun a w'=>a=.returned (.int .i64 (-1))/\w=w':=by
 go_enter func97,ntmps97;go_wp2_with fail;go_ret;exact ⟨rfl,rfl⟩
def mA (c a b:Nat) (d:LiveM w B own gl gk gp rate mv R P L T pr) (q:0 < c) (i:L[a]?=some b) (g:∀o∈L,o < 257) (n:L.length<=1000) (m:T.length<=1000):
 Calls prog 97 #[gl,(c:Int),(a:Int)] w fun f w'=>f=.returned (.int .i64 ((mO L T b a:Nat):Int))/\VB B w w':=by
 have e:=lL B gk L T a b w d.walk.atT i g n m;have p:=d.blk.cell 0;have r:((c:Int)==0)=false:=by rw [zCb];omega
 obtain ⟨s,j⟩:=eqx (mO L T b a);rw [j] at e⊢;clear d i g j;go_enter func97,ntmps97;go_wp2_with fail;refine e.mono ?_;rintro f w' ⟨rfl,k⟩;have l:=lhd k;clear e k;go_wp2_with fail;go_ret;exact ⟨rfl,l.out⟩
end
def inI (a b:Int):Int:=if a>=b then a+1 else a
def uW (a b:Int):Int:=if a > b then a - 1 else a
def pE (b a:Nat):inI (b:Int) (a:Int)=((inR b a:Nat):Int):=by
 unfold inI inR;split <;> split <;> omega
def iK (b a:Nat):uW (b:Int) (a:Int)=((aQ b a:Nat):Int):=by
 unfold uW aQ;split <;> split <;> omega
def aBj (a:Nat):inI (-1) (a:Int)=-1:=by unfold inI;rw [zBw oM]
def xS (a:Nat):uW (-1) (a:Int)=-1:=by unfold uW;rw [zBw oM]
def gF (a b:Int) (w:World) (f:-1000000<=a/\a<=1000000):
 Calls prog 111 #[.int .i64 a,.int .i64 b] w fun d w'=>d=.returned (.int .i64 (inI a b))/\w=w':=by
 unfold inI;by_cases c:a>=b
 · rw [zBx c];have e:wrap64 (a+1)=a+1:=cU oM oM;go_enter func111,ntmps111;go_wp2_with fail;go_ret;exact ⟨rfl,rfl⟩
 · rw [zBw c];go_enter func111,ntmps111;go_wp2_with fail;go_ret;exact ⟨rfl,rfl⟩
def iS (a b:Int) (w:World) (f:-1000000<=a/\a<=1000000):
 Calls prog 105 #[.int .i64 a,.int .i64 b] w fun d w'=>d=.returned (.int .i64 (uW a b))/\w=w':=by
 unfold uW;by_cases c:a > b
 · rw [zBx c];have e:IntKind.i64.wrap (a - 1)=a - 1:=(by rw [IntKind.wrap_i64];omega);go_enter func105,ntmps105;go_wp2_with fail;go_ret;exact ⟨rfl,rfl⟩
 · rw [zBw c];go_enter func105,ntmps105;go_wp2_with fail;go_ret;exact ⟨rfl,rfl⟩
def aA2 (a d b:Nat) (w:World) (q:0 < a∨¬d < b) (p:a<=1000000):
 Calls prog 183 #[(a:Int),(d:Int),(b:Int)] w fun k w'=>k=.returned (.int .i64 ((aDC a d b:Nat):Int))/\w=w':=by
 unfold aDC;by_cases j:d < b
 · obtain ⟨c,o⟩:∃c,a=c+1:=⟨a - 1,by omega⟩;subst o;have n:(d:Int) < (b:Int):=oM;have l:IntKind.i64.wrap (((c+1:Nat):Int) - 1)=(c:Int):=(by rw [IntKind.wrap_i64];omega);obtain ⟨a,i⟩:=eqx (c+1);rw [i] at l⊢;have e:(if d < b then a - 1 else a)=c:=(by rw [zBx j];omega);simp only [e];by_cases f:b<=c
   · have g:(c:Int)>=(b:Int):=oM;have m:wrap64 ((c:Int)+1)=((c+1:Nat):Int):=(by rw [cU oM oM];rfl);rw [zBx f];clear e i;go_enter func183,ntmps183;go_wp2_with fail;go_ret;exact ⟨rfl,rfl⟩
   · have g:¬(c:Int)>=(b:Int):=oM;rw [zBw f];clear e i;go_enter func183,ntmps183;go_wp2_with fail;go_ret;exact ⟨rfl,rfl⟩
 · have n:¬(d:Int) < (b:Int):=oM;have e:(if d < b then a - 1 else a)=a:=(by rw [zBw j]);simp only [e];by_cases f:b<=a
   · have g:(a:Int)>=(b:Int):=oM;have m:wrap64 ((a:Int)+1)=((a+1:Nat):Int):=(by rw [cU oM oM];rfl);rw [zBx f];clear e;go_enter func183,ntmps183;go_wp2_with fail;go_ret;exact ⟨rfl,rfl⟩
   · have g:¬(a:Int)>=(b:Int):=oM;rw [zBw f];clear e;go_enter func183,ntmps183;go_wp2_with fail;go_ret;exact ⟨rfl,rfl⟩
def wZ (gl:Nat) (d e f:Value) (mv a b:Int) (w:World) (c:Bk w gl 109 #[d,e,f,.int .i64 mv]) (k:0<=a) (l:a<=b):
 Calls prog 95 #[gl,.int .i64 a,.int .i64 b] w fun g w'=>g=.returned (.int .i64 0)/\w'=w.setCell ⟨gl,3,none⟩ (.int .i64 0):=by
 have i:w.cell? ⟨gl,3,none⟩=some (.int .i64 mv):=(c.cell 3).trans rfl;have j:=c.frozen 3;have m:decide (a < 0)=false:=zBy oM;have n:¬a > b:=oM;have o:¬b < a:=oM;clear c;go_enter func95,ntmps95;go_wp2_with fail;go_ret;exact ⟨rfl,rfl⟩
end
end Go.Proofs.YtnmapianpjamnaaGreatDoor
