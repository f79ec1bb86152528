/- Lemmas of the walk. Conditions: each its own. -/
import Derived.Test.YtnmapianpjamnaaGreatDoorPk6
import Derived.Test.YtnmapianpjamnaaGreatDoorPk7
import Derived.Test.YtnmapianpjamnaaGreatDoorProg
import Derived.Test.YtnmapianpjamnaaGreatDoorSht
import Derived.Test.YtnmapianpjamnaaGreatDoorShl
set_option linter.all false
set_option maxRecDepth 100000
set_option maxHeartbeats 2000000
open Go.Proofs.Tryz
namespace Go.Proofs.YtnmapianpjamnaaGreatDoor
open Go.RowKit
def fG (w:World) (a:Nat) (c:Value):Nat:=match w.cell? ⟨a,(intOf c).toNat*8+2,none⟩ with
 | some (.int _ b)=>b.toNat
 | _=>0
def eV {w:World} {i g c d m:Nat} {b:List Value} {n o:Int} {a:LT} (j:TR w i g (some ⟨c,0,none⟩) d m b n o) (k:a.In w b):fG w c (.int .i64 (a.num:Int))=a.ht:=by
 obtain ⟨p,q,r,s,t,f⟩:=a.cel;obtain ⟨_,_,e,_⟩:=j.at (show At8 b a.num [_,_,_,_,_,_,_,_] from f ▸ k.at);unfold fG;rw [show (intOf (.int .i64 (a.num:Int))).toNat=a.num from rfl,e];rfl
def mD (l c:List Bool) (b:Nat) (a:Bool) (d:l.length<=b):((l++c).take b).count a=l.count a+(c.take (b - l.length)).count a:=by
 rw [List.take_append,zAg d,zCb]
def eB (w:World) (b:Nat) (c:Value) (a:Array Value):Bk ((w.setCell ⟨b,3,none⟩ c).alloc (.cells a 220)) w.heap.size 220 a:=by
 have d:=Bk.new (w.setCell ⟨b,3,none⟩ c) 220 a;rwa [show (w.setCell ⟨b,3,none⟩ c).heap.size=w.heap.size by simp [World.setCell]] at d
def sN {b a:Nat} (c:b=a) (ht:a<=1100):wrap64 (a:Int)=(b:Int):=by subst c;unfold wrap64;omega
structure AtSub (w:World) (xs:List Value) (s:LT):Prop where
 sub:s.In w xs
 le:s.er.Le
 len:s.len<=1100
def AtSub.l {w:World} {b:List Value} {c:Nat} {l d:LT} (a:AtSub w b (.nd c l d)):AtSub w b l:=⟨a.sub.2.1,a.le.1,by have:=a.len;rw [LT.len_nd] at this;omega⟩
def AtSub.r {w:World} {c:List Value} {d:Nat} {l b:LT} (a:AtSub w c (.nd d l b)):AtSub w c b:=⟨a.sub.2.2,a.le.2,by have:=a.len;rw [LT.len_nd] at this;omega⟩
def xM (d:Nat) (P:Option Tr) (g:Nat) (b:Bool) (w:World) (V:TreeO w d P) (aM:g<=(cR P).length):
 Calls prog 195 #[d,(g:Int),.bool b] w fun m bx=>m=.returned (.int .i64 ((((cR P).take g).count b:Nat):Int))/\VisK (fun b=>b=d) w bx:=by
 have bn:=V.le;obtain ⟨bd,L,bo⟩:=V.blk;have ak:=VisK.set_tree L 0;have b0:=V.vis ak.1;have bL:=L.lt;have aA:w.cell? ⟨d,3,none⟩=some bd[3]:=by rw [L.cell 3];simp [bo]
 have aD:=L.frozen 3;obtain ⟨bc,ab⟩:=eqx ((cR P).length);rw [ab] at aM bn;have bw:max (g:Int) 0=(g:Int):=oM;have c1:min (g:Int) (bc:Int)=(g:Int):=oM;obtain ⟨an,a8,a6,bB⟩:=hqq4 ak b0 ab aM;clear V ak b0 L ab;go_enter func195,ntmps195;go_wp2_with fail;clear aA aD;refine (mI d P _ a8.out).mono ?_;rintro m n ⟨rfl,ac⟩;rw [a6.out];clear bw;have s:=an.out.below ac;have b1:=a8.out.vis (Vis.of_below ac);obtain ⟨ao,bb⟩:=hqq2 s b1;clear s b1 an a8 ac;rcases zBa g with aN | aN
 · subst aN;go_wp2_with fail;go_ret;exact ⟨rfl,ao.out⟩
 · have bq:¬((g:Int)=0):=oM;have bQ:((g:Int)==0)=false:=zCa.2 bq;obtain ⟨bK,bA,bF,al,a5,c2,c3,B,⟨rfl,rfl⟩|⟨G,rfl,ae,rfl,K,aE⟩⟩:=bb.out;have:=a6.out;simp [cR] at this;omega;obtain ⟨r,bG,rfl,aK⟩:=B.ex (by have:=ae.at.lt B.len;omega);obtain ⟨H,aj⟩:=eqx (((cR (some G.er)).take g).count b);have bv:H<=1100:=(by rw [<-aj];exact zAk zBu (by rw [zAj];omega));have bE:=B.c2;have bO:=B.blk.lt;have bM:=aK.lt;obtain ⟨S,b5,az⟩:=hqq3 B (show AtSub n a5 G from ⟨ae,K.le,aE⟩) aj;have br:g<=G.len:=(by have:=a6.out;have m:(cR (some G.er)).length=G.len:=rfl;omega);clear B ae aK aj K aE;go_wp2_with fail;go_loopw [1,7,8] (fun bz x o wr=>∃(v:LT) (a j:Nat),bz=.int .i64 (a:Int)/\x=.int .i64 ((v.num:Nat):Int)/\o=.int .i64 (j:Int)/\AtSub n a5 v/\a<=v.len/\j+(v.bits.take a).count b=H/\VisK (fun b=>b=d) n wr) (fun _ x _ _=>fG n r x)
   case atStart=>exact ⟨G,g,0,rfl,rfl,rfl,b5.out,br,by rw [zBi];exact az.out,VisK.refl _ _⟩
   case round=>
    obtain ⟨v,a,j,rfl,rfl,rfl,q,Y,a1,E⟩:=hrel;obtain ⟨R,f⟩:=S.out.vis E.1;have bD:=f.c1;have aA:=f.c3;have aD:=f.blk.frozen 3;have bP:=f.blk.lt;obtain ⟨bH,W⟩:=iC f.row;have bN:=W.lt;have D:=q.sub.vis E.1;have bU:d≠r:=Bk.ne f.blk W dC;have aQ:(v.num:Int) < (al:Int):=(by have:=D.at.lt f.len;omega);have ah:=eV S.out q.sub;generalize aY:v.num=e at*
    cases v with
    | lf Q aa k=>
      change Q=e at aY;subst Q;obtain ⟨b3,ag⟩:=eqx k.length;obtain ⟨z,N⟩:=eqx (k.count true);obtain ⟨be,bf,bg,aB,aC,bh,bi,bj⟩:=f.at (show At8 a5 e [_,_,_,_,_,_,_,_] from D.1);rw [ag] at aB;rw [N] at aC;change (e:Int) < (al:Int) at aQ;have bs:k.length<=128:=q.le;have aR:a<=k.length:=Y;have aZ:j+(k.take a).count b=H:=a1;have bp:d≠wr.heap.size:=oM;have s:VisK (fun b=>b=d) wr ((wr.setCell ⟨d,3,none⟩ (.int .i64 (wrap64 (R+1)))).alloc (.cells #[.int .i64 (-1),.int .i64 (-1),.int .i64 0,(b3:Int),(z:Int),.int .i64 0,.int .i64 0,aa] 220)):=(VisK.set_tree f.blk _).alloc _;have ad:=D.2;have aI:=(ad.far (p:=⟨d,3,none⟩) (Bk.ne ad f.blk dC) (.int .i64 (wrap64 (R+1)))).alloc (.cells #[.int .i64 (-1),.int .i64 (-1),.int .i64 0,(b3:Int),(z:Int),.int .i64 0,.int .i64 0,aa] 220);obtain ⟨T,b4,U,ar,I,bC⟩:=hqq6 (E.trans s) aI aZ bs aR ag;clear q Y a1 E f W D ah s ad aI aZ aR ag N;go_wp2_with fail;refine (pP aa k a _ b4.out ar.out I.out).mono ?_;rintro m c4 ⟨rfl,aG⟩;obtain ⟨x,a2⟩:=eqx (List.count true (List.take a k));have bu:x<=a:=(by rw [<-a2];exact zAk zBu (by rw [zAj];omega));have aS:(if b then x else a - x)=(k.take a).count b:=(by have A:(k.take a).length=a:=(by rw [zAj];have:=I.out;omega);have y:=jU (k.take a) b;rw [A,a2] at y;exact y);rw [a2];obtain ⟨am,ap⟩:=hqq2 aS (T.out.below aG);have aP:a<=100000:=(by have:=I.out;have:=ar.out;omega);clear a2 aS aG;go_wp2_with fail;refine (iF a x b _ aP bu).mono ?_;rintro m a4 ⟨rfl,C⟩;rw [am.out];have b2:=ap.out.below C;obtain ⟨o,t⟩:=eqx (List.count b (List.take a k));have c0:j+o=H:=(by rw [<-t];exact U.out);rw [t];have a7:=lhd (ao.out.trans b2);have bX:wrap64 ((j:Int)+(o:Int))=(H:Int):=(by unfold wrap64;omega);have bY:((j:Int)+(o:Int))=(H:Int):=oM;clear t b2 C am ap;go_wp2_with fail;go_ret;exact ⟨cZ (sN az.out bv),a7.out⟩
    | nd Q l i=>
      change Q=e at aY;subst Q;obtain ⟨c,M⟩:=eqx l.len;obtain ⟨u,Z⟩:=eqx l.on;obtain ⟨a3,aX⟩:=eqx (l.len+i.len);obtain ⟨z,N⟩:=eqx (l.on+i.on);obtain ⟨X,aL⟩:=eqx (max l.ht i.ht+1);obtain ⟨O,af⟩:=eqx l.num;obtain ⟨F,ai⟩:=eqx i.num;have aO:At8 a5 e (ndL O F X a3 z c u):=(by rw [<-M,<-Z,<-aX,<-N,<-aL,<-af,<-ai];exact D.1);obtain ⟨be,bf,bg,aB,aC,bh,bi,bj⟩:=f.at aO;change (e:Int) < (al:Int) at aQ;have bS:=q.len;have aT:=LT.len_nd e l i;have aU:=eV S.out q.l.sub;have aW:=eV S.out q.r.sub;have aV:(LT.nd e l i).ht=max l.ht i.ht+1:=rfl;have bt:u<=c:=(by rw [<-Z,<-M];exact l.on_le);have bT:c<=1100:=oM;have aP:a<=1100:=oM;have aH:(LT.nd e l i).bits=l.bits++i.bits:=rfl;have aJ:(if b then u else c - u)=l.bits.count b:=(by rw [<-Z,<-M];exact jU l.bits b);have bV:j<=1100:=oM;have bp:d≠wr.heap.size:=oM;have s:VisK (fun b=>b=d) wr ((wr.setCell ⟨d,3,none⟩ (.int .i64 (wrap64 (R+1)))).alloc (.cells #[(O:Int),(F:Int),(X:Int),(a3:Int),(z:Int),(c:Int),(u:Int),.pointer none] 220)):=(VisK.set_tree f.blk _).alloc _;obtain ⟨T,ay,U,J,au,ax,aw,b9,ba⟩:=hqq9 (E.trans s) q a1 M af ai ah aU aW;obtain ⟨av,b7,aq,I,b8⟩:=hqq5 aV aJ aH Y aT;clear q a1 M Z aX N aL af ai ah aU aW aV aJ aH Y aT aO D W f E s;by_cases a9:a<=c
      · have bk:decide ((a:Int)<=(c:Int))=true:=zBy oM;have bl:decide (a<=c)=true:=zBy a9;go_wp2_with fail;go_roundw
        case rel=>exact ⟨l,a,j,rfl,by rw [au.out],rfl,ay.out.l,by rw [J.out];exact a9,by
         have:=U.out;rw [aq.out,List.take_append_of_le_length (by have m:l.bits.length=c:=J.out;omega)] at this;exact this,T.out⟩
        case measure=>have y:=aw.out;have A:=b9.out;have K:=av.out;rw [au.out] at A;show fG n r (.int .i64 (O:Int)) < fG n r (.int .i64 ((e:Nat):Int));have bm:fG n r (.int .i64 ((e:Nat):Int))=(LT.nd e l i).ht:=y;omega
      · have bk:decide ((a:Int)<=(c:Int))=false:=zBx oM;have bl:decide (a<=c)=false:=zBx a9;go_wp2_with fail;refine (iF c u b _ oM bt).mono ?_;rintro m a4 ⟨rfl,C⟩;rw [b7.out];obtain ⟨o,t⟩:=eqx (l.bits.count b);rw [t];have bZ:o<=c:=(by have m:l.bits.length=c:=J.out;rw [<-t,<-m];exact zBu);have a7:=lhd (T.out.below C);have a0:=(eB wr d (.int .i64 (wrap64 (R+1))) #[(O:Int),(F:Int),(X:Int),(a3:Int),(z:Int),(c:Int),(u:Int),.pointer none]).below C (eB wr d (.int .i64 (wrap64 (R+1))) #[(O:Int),(F:Int),(X:Int),(a3:Int),(z:Int),(c:Int),(u:Int),.pointer none]).lt;have bI:a4.cell? ⟨wr.heap.size,1,none⟩=some (.int .i64 (F:Int)):=(by rw [a0.cell 1];rfl);have bJ:a4.cell? ⟨wr.heap.size,5,none⟩=some (.int .i64 (c:Int)):=(by rw [a0.cell 5];rfl);have bW:wr.heap.size < a4.heap.size:=a0.lt;clear a0;have b6:=lhd t;clear C t;go_wp2_with fail;go_quiet (fail);go_wp2_with fail;go_roundw
        case rel=>exact ⟨i,a - c,j+o,congrArg (Value.int .i64) (show (a:Int) -(c:Int)=((a - c:Nat):Int) by omega),by rw [ax.out],congrArg (Value.int .i64) (show (j:Int)+(o:Int)=((j+o:Nat):Int) from rfl),ay.out.r,by
         have y:=I.out;have A:=b8.out;have K:=J.out;omega,by
         have aF:=U.out;have m:l.bits.length=c:=J.out;rw [aq.out,mD _ _ _ _ oM,b6.out,m] at aF;rw [Nat.add_assoc];exact aF,a7.out.below (below_drewN bR _)⟩
        case measure=>have y:=aw.out;have A:=ba.out;have K:=av.out;rw [ax.out] at A;show fG n r (.int .i64 (F:Int)) < fG n r (.int .i64 ((e:Nat):Int));have bm:fG n r (.int .i64 ((e:Nat):Int))=(LT.nd e l i).ht:=y;omega
def aC3 {l c:List Bool} {a:Nat} (b:a < l.length):(l++c).getD a false=l.getD a false:=by
 rw [zAb,zAb,zAn b]
def aC2 {l b:List Bool} {a:Nat} (c:l.length<=a):(l++b).getD a false=b.getD (a - l.length) false:=by
 rw [zAb,zAb,zAo c]
def aAr (a:Nat) (d:Option Tr) (c:Nat) (w:World) (e:TreeO w a d) (y:c < (cR d).length):
 Calls prog 224 #[a,(c:Int)] w fun j z=>j=.returned (.int .i64 0)/\VisK (fun s=>s=a) w z:=by
 obtain ⟨u,b,x⟩:=e.blk;have f:=VisK.set_tree b 0;have n:=e.vis f.1;have A:=b.lt;have t:w.cell? ⟨a,3,none⟩=some u[3]:=by rw [b.cell 3];simp [x]
 have v:=b.frozen 3;have B:¬(c:Int) < 0:=oM;obtain ⟨g,i⟩:=hqq2 f n;obtain ⟨r,k⟩:=eqx ((cR d).length);have p:=lhd k;have C:¬(r<=c):=oM;clear e f n b k y;go_enter func224,ntmps224;go_wp2_with fail;clear t v;refine (mI a d _ i.out).mono ?_;rintro j D ⟨rfl,m⟩;rw [p.out];have o:=g.out.below m;have q:=lhd o;clear o m g i;go_wp2_with fail;go_ret;exact ⟨rfl,q.out⟩
def aAs (e:Nat) (z:Option Tr) (o:Nat) (w:World) (S:TreeO w e z) (am:o < (cR z).length):
 Calls prog 174 #[e,(o:Int)] w fun r b0=>r=.returned (.tuple #[.bool ((cR z).getD o false),.int .i64 0])/\VisK (fun n=>n=e) w b0:=by
 have aW:=S.le;obtain ⟨N,O⟩:=hqq2 S am;obtain ⟨ac,T⟩:=eqx ((cR z).getD o false);rw [T];have aH:=lhd T;have aY:o<=1100:=oM;clear S am T aW;go_enter func174,ntmps174;go_wp2_with fail;refine (aAr e z o w N.out O.out).mono ?_;rintro r g ⟨rfl,j⟩;obtain ⟨aM,aF⟩:=hqq2 (N.out.vis j.1) j;clear j N;obtain ⟨ba,b2,b6,a2,M,bj,bk,s,⟨rfl,rfl⟩|⟨aC,rfl,V,rfl,v,af⟩⟩:=aM.out
 · have:=O.out;simp [cR] at this
 obtain ⟨k,b7,rfl,aj⟩:=s.ex (by have:=V.at.lt s.len;omega);have b4:=s.c2;have bd:=s.blk.lt;have bb:=aj.lt;obtain ⟨C,aE⟩:=hqq2 s (show AtSub g M aC from ⟨V,v.le,af⟩);clear s V aj v af;go_wp2_with fail;go_loopw [1,7] (fun b1 a5 wr=>∃(m:LT) (a:Nat),b1=.int .i64 (a:Int)/\a5=.int .i64 ((m.num:Nat):Int)/\AtSub g M m/\a < m.len/\m.bits.getD a false=ac/\VisK (fun n=>n=e) g wr) (fun _ a5 _=>fG g k a5)
 case atStart=>exact ⟨aC,o,rfl,rfl,aE.out,O.out,aH.out,VisK.refl _ _⟩
 case round=>
  obtain ⟨m,a,rfl,rfl,i,J,L,u⟩:=hrel;obtain ⟨a4,d⟩:=C.out.vis u.1;have b3:=d.c1;have b5:=d.c3;have b9:=d.blk.frozen 3;have be:=d.blk.lt;obtain ⟨b8,I⟩:=iC d.row;have bc:=I.lt;have t:=i.sub.vis u.1;have bi:e≠k:=Bk.ne d.blk I dC;have ao:(m.num:Int) < (a2:Int):=by have:=t.at.lt d.len;omega
  have Y:=eV C.out i.sub;generalize ay:m.num=b at*
  cases m with
  | lf B R q=>
    change B=b at ay;subst B;obtain ⟨aA,ar⟩:=eqx q.length;obtain ⟨A,y⟩:=eqx (q.count true);obtain ⟨aN,aO,aP,ad,ae,aQ,aR,aS⟩:=d.at (show At8 M b [_,_,_,_,_,_,_,_] from t.1);rw [ar] at ad;rw [y] at ae;change (b:Int) < (a2:Int) at ao;have aZ:q.length<=128:=i.le;have ap:a < q.length:=J;have az:q.getD a false=ac:=L;have aX:e≠wr.heap.size:=oM;have j:VisK (fun n=>n=e) wr ((wr.setCell ⟨e,3,none⟩ (.int .i64 (wrap64 (a4+1)))).alloc (.cells #[.int .i64 (-1),.int .i64 (-1),.int .i64 0,(aA:Int),(A:Int),.int .i64 0,.int .i64 0,R] 220)):=(VisK.set_tree d.blk _).alloc _;have U:=t.2;have ai:=(U.far (p:=⟨e,3,none⟩) (Bk.ne U d.blk dC) (.int .i64 (wrap64 (a4+1)))).alloc (.cells #[.int .i64 (-1),.int .i64 (-1),.int .i64 0,(aA:Int),(A:Int),.int .i64 0,.int .i64 0,R] 220);obtain ⟨D,aD,F,aI,P⟩:=hqq5 (u.trans j) ai az aZ ap;clear i J L u d I t Y j U ai az ap ar y;go_wp2_with fail;refine (sM R q a _ aD.out aI.out P.out).mono ?_;rintro r bl ⟨rfl,ag⟩;rw [F.out];have aG:=lhd (aF.out.trans (D.out.below ag));clear ag;go_wp2_with fail;go_ret2;exact ⟨rfl,aG.out⟩
  | nd B l f=>
    change B=b at ay;subst B;obtain ⟨c,K⟩:=eqx l.len;obtain ⟨a1,X⟩:=eqx l.on;obtain ⟨aB,ax⟩:=eqx (l.len+f.len);obtain ⟨A,y⟩:=eqx (l.on+f.on);obtain ⟨ak,al⟩:=eqx (max l.ht f.ht+1);obtain ⟨a0,W⟩:=eqx l.num;obtain ⟨a3,Z⟩:=eqx f.num;have an:At8 M b (ndL a0 a3 ak aB A c a1):=(by rw [<-K,<-X,<-ax,<-y,<-al,<-W,<-Z];exact t.1);obtain ⟨aN,aO,aP,ad,ae,aQ,aR,aS⟩:=d.at an;change (b:Int) < (a2:Int) at ao;have bf:=i.len;have aq:=LT.len_nd b l f;have au:=eV C.out i.l.sub;have aw:=eV C.out i.r.sub;have av:(LT.nd b l f).ht=max l.ht f.ht+1:=rfl;have bh:a1<=c:=(by rw [<-X,<-K];exact l.on_le);have bg:c<=1100:=oM;have aY:a<=1100:=oM;have ah:(LT.nd b l f).bits=l.bits++f.bits:=rfl;have aX:e≠wr.heap.size:=oM;have j:VisK (fun n=>n=e) wr ((wr.setCell ⟨e,3,none⟩ (.int .i64 (wrap64 (a4+1)))).alloc (.cells #[(a0:Int),(a3:Int),(ak:Int),(aB:Int),(A:Int),(c:Int),(a1:Int),.pointer none] 220)):=(VisK.set_tree d.blk _).alloc _;obtain ⟨D,ab,F,E,a7,aa,a9,aK,aL⟩:=hqq9 (u.trans j) i L K W Z Y au aw;obtain ⟨a8,a6,P,aJ⟩:=hqq4 av ah J aq;clear i L K X ax y al W Z Y au aw av ah J aq an t I d u j;by_cases Q:a < c
    · have aT:decide ((a:Int) < (c:Int))=true:=zBy oM;have aU:decide (a < c)=true:=zBy Q;go_wp2_with fail;go_roundw
      case rel=>exact ⟨l,a,rfl,by rw [a7.out],ab.out.l,by rw [E.out];exact Q,by
       have x:=F.out;rw [a6.out,aC3 (by have r:l.bits.length=c:=E.out;omega)] at x;exact x,D.out⟩
      case measure=>have G:=a9.out;have H:=aK.out;have v:=a8.out;rw [a7.out] at H;show fG g k (.int .i64 (a0:Int)) < fG g k (.int .i64 ((b:Nat):Int));have aV:fG g k (.int .i64 ((b:Nat):Int))=(LT.nd b l f).ht:=G;omega
    · have aT:decide ((a:Int) < (c:Int))=false:=zBx oM;have aU:decide (a < c)=false:=zBx Q;go_wp2_with fail;go_quiet (fail);go_wp2_with fail;go_roundw
      case rel=>exact ⟨f,a - c,congrArg (Value.int .i64) (show (a:Int) -(c:Int)=((a - c:Nat):Int) by omega),by rw [aa.out],ab.out.r,by
       have G:=P.out;have H:=aJ.out;have v:=E.out;omega,by
       have x:=F.out;have r:l.bits.length=c:=E.out;rw [a6.out,aC2 oM,r] at x;exact x,D.out.below (below_drewN bR _)⟩
      case measure=>have G:=a9.out;have H:=aL.out;have v:=a8.out;rw [aa.out] at H;show fG g k (.int .i64 (a3:Int)) < fG g k (.int .i64 ((b:Nat):Int));have aV:fG g k (.int .i64 ((b:Nat):Int))=(LT.nd b l f).ht:=G;omega
def TabW.visk {a:Nat} {w c:World} (e:TabW w) (i:VisK (fun d=>d=a) w c) (j:0 < a) (g:0 < w.heap.size):TabW c:=
 fun b f=>(i.2.cell (p:=⟨0,b,none⟩) g (by show ¬(0=a);omega)).trans (e b f)
def uH {l:List Bool} {a:Bool} {b:Nat} (c:l[b]?=some a):(l.take b).count a < l.count a:=by
 have g:=(zAc.1 c).1;have d:l=l.take (b+1)++l.drop (b+1):=(zAu _ _).symm;have e:l.count a=(l.take (b+1)).count a+(l.drop (b+1)).count a:=by rw [<-zCb,zAu]
 have f:(l.take (b+1)).count a=(l.take b).count a+1:=by rw [zAv,c,zCb];simp
 omega
def aDn {l r:List Bool} {a:Bool} {b d:Nat} (f:(l++r)[b]?=some a) (c:((l++r).take b).count a=d) (g:d < l.count a):l[b]?=some a/\(l.take b).count a=d:=by
 by_cases e:b < l.length;rw [zAn e] at f;rw [List.take_append_of_le_length (zCi e)] at c;exact ⟨f,c⟩;rw [mD _ _ _ _ oM] at c;omega
def aDm {l r:List Bool} {a:Bool} {b d:Nat} (c:(l++r)[b]?=some a) (f:((l++r).take b).count a=d) (g:¬d < l.count a):l.length<=b/\r[b - l.length]?=some a/\(r.take (b - l.length)).count a=d - l.count a:=by
 by_cases e:b < l.length;rw [zAn e] at c;rw [List.take_append_of_le_length (zCi e)] at f;have:=uH c;omega;rw [zAo oM] at c;rw [mD _ _ _ _ oM] at f;exact ⟨by omega,c,by omega⟩
def rV (b:Nat) (A:Option Tr) (x C:Nat) (a:Bool) (w:World) (Q:TreeO w b A) (a8:(cR A)[x]?=some a) (a7:((cR A).take x).count a=C) (aj:TabW w) (bO:0 < b):
 Calls prog 223 #[b,(C:Int),.bool a] w fun g bY=>g=.returned (.int .i64 (x:Int))/\VisK (fun a=>a=b) w bY:=by
 have bM:=Q.le;obtain ⟨bz,R,bN⟩:=Q.blk;have bU:=(zAc.1 a8).1;have aY:=uH a8;rw [a7] at aY;have aW:=oK (cR A);have bX:0 < w.heap.size:=aj.pos;have ar:=VisK.set_tree R 0;have bg:=Q.vis ar.1;have cc:=R.lt;have aL:w.cell? ⟨b,3,none⟩=some bz[3]:=by rw [R.cell 3];simp [bN]
 have aO:=R.frozen 3;obtain ⟨P,a4⟩:=eqx ((cR A).length);obtain ⟨on,ao⟩:=eqx ((cR A).count true);rw [a4,ao] at aW;rw [a4] at bM;have b4:C < (if a then on else P - on):=by cases a;simp;omega;simp;omega
 have bL:P<=100000:=oM;have bS:on<=P:=oM;have ch:C<=1100:=by rw [<-a7];exact zAk zBu (by rw [zAj];omega)
 have bT:x<=1100:=oM;obtain ⟨c,ap⟩:=eqx ((if a then on else P - on));rw [ap] at b4;obtain ⟨aA,af,aJ,bm,aG,br,bv,bw,bn⟩:=hqq9 ar Q bg a4 a8 a7 ao ap aj;have c1:=lhd b4;clear Q ar bg R a4 bU aY aW a8 a7 ao ap aj;go_enter func223,ntmps223;go_wp2_with fail;clear aL aO;refine (mI b A _ aJ.out).mono ?_;rintro g cq ⟨rfl,aQ⟩;rw [bm.out];have t:=aA.out.below aQ;have bh:=af.out.vis t.1;obtain ⟨aB,aK⟩:=hqq2 t bh;clear t bh aA aJ aQ;go_wp2_with fail;refine (xN b A _ aK.out).mono ?_;rintro g cr ⟨rfl,aR⟩;rw [bv.out];have au:=aB.out.below aR;have bi:=af.out.vis au.1;obtain ⟨F,bx⟩:=hqq2 au bi;clear au bi aB aK aR;go_wp2_with fail;refine (iF P on a _ bL bS).mono ?_;rintro g q ⟨rfl,aS⟩;rw [bw.out];have av:=F.out.below aS;have bW:=af.out.vis av.1;have bb:¬c<=C:=oM;have bR:decide (c<=C)=false:=zBx bb;have aC:=lhd av;clear av aS F bx;obtain ⟨ca,c0,c5,ax,ad,co,cp,I,⟨rfl,rfl⟩|⟨bj,rfl,al,rfl,a3,aP⟩⟩:=bW
 · have:=aG.out;simp [cR] at this
 obtain ⟨y,c6,rfl,aZ⟩:=I.ex (by have:=al.at.lt I.len;omega);have c4:=I.c2;have cf:=I.blk.lt;have cd:=aZ.lt;obtain ⟨W,bl⟩:=hqq2 I (show AtSub q ad bj from ⟨al,a3.le,aP⟩);clear I al aZ a3 aP;go_wp2_with fail;clear bb bR;go_loopw [1,7,8] (fun bZ ay s wr=>∃(n:LT) (e o j:Nat),bZ=.int .i64 (e:Int)/\ay=.int .i64 ((n.num:Nat):Int)/\s=.int .i64 (o:Int)/\AtSub q ad n/\n.bits[j]?=some a/\(n.bits.take j).count a=e/\o+j=x/\VisK (fun a=>a=b) q wr) (fun _ ay _ _=>fG q y ay)
 case atStart=>exact ⟨bj,C,0,x,rfl,rfl,rfl,bl.out,aG.out,br.out,zBi _,VisK.refl _ _⟩
 case round=>
  obtain ⟨n,e,o,j,rfl,rfl,rfl,m,a9,S,aa,L⟩:=hrel;have ci:e<=1100:=by rw [<-S];refine zAk zBu ?_;rw [zAj];have a2:=m.len;have g:n.bits.length=n.len:=rfl;omega
  obtain ⟨D,i⟩:=W.out.vis L.1;have c3:=i.c1;have aL:=i.c3;have aO:=i.blk.frozen 3;have cg:=i.blk.lt;obtain ⟨c7,a5⟩:=iC i.row;have ce:=a5.lt;have J:=m.sub.vis L.1;have cl:b≠y:=Bk.ne i.blk a5 dC;have b3:(n.num:Int) < (ax:Int):=by have:=J.at.lt i.len;omega
  have an:=eV W.out m.sub;generalize be:n.num=f at*
  cases n with
  | lf V H G=>
    change V=f at be;subst V;obtain ⟨ab,b7⟩:=eqx G.length;obtain ⟨v,U⟩:=eqx (G.count true);obtain ⟨bA,bB,bC,aM,aN,bD,bE,bF⟩:=i.at (show At8 ad f [_,_,_,_,_,_,_,_] from J.1);rw [b7] at aM;rw [U] at aN;change (f:Int) < (ax:Int) at b3;have bQ:G.length<=128:=m.le;have bd:G[j]?=some a:=a9;have b1:(G.take j).count a=e:=S;have bP:b≠wr.heap.size:=oM;have t:VisK (fun a=>a=b) wr ((wr.setCell ⟨b,3,none⟩ (.int .i64 (wrap64 (D+1)))).alloc (.cells #[.int .i64 (-1),.int .i64 (-1),.int .i64 0,(ab:Int),(v:Int),.int .i64 0,.int .i64 0,H] 220)):=(VisK.set_tree i.blk _).alloc _;have ak:=J.2;have aV:=(ak.far (p:=⟨b,3,none⟩) (Bk.ne ak i.blk dC) (.int .i64 (wrap64 (D+1)))).alloc (.cells #[.int .i64 (-1),.int .i64 (-1),.int .i64 0,(ab:Int),(v:Int),.int .i64 0,.int .i64 0,H] 220);obtain ⟨F,az,a0,bs,Z,Y⟩:=hqq6 (L.trans t) aV aa bQ bd b1;clear m a9 S aa L i a5 J an t ak aV bd b1 b7 U;go_wp2_with fail;refine (iF 0 0 a _ oM nL).mono ?_;rintro g B ⟨rfl,z⟩;have ah:(if a=true then 0 else 0 - 0:Nat)=0:=(by cases a <;> rfl);rw [ah];obtain ⟨O,bk⟩:=hqq2 (F.out.below z) (az.out.below z az.out.lt);have bo:=lhd (bn.out.visk (aC.out.trans O.out) bO bX);have k:=(eB wr b (.int .i64 (wrap64 (D+1))) #[.int .i64 (-1),.int .i64 (-1),.int .i64 0,(ab:Int),(v:Int),.int .i64 0,.int .i64 0,H]).below z (eB wr b (.int .i64 (wrap64 (D+1))) #[.int .i64 (-1),.int .i64 (-1),.int .i64 0,(ab:Int),(v:Int),.int .i64 0,.int .i64 0,H]).lt;have bG:B.cell? ⟨wr.heap.size,7,none⟩=some (.pointer (some H)):=(by rw [k.cell 7];rfl);have bV:wr.heap.size < B.heap.size:=k.lt;clear k z ah;go_wp2_with fail;refine (nA H G a j e _ bk.out bs.out Z.out Y.out bo.out).mono ?_;rintro g cs ⟨rfl,aT⟩;have bp:=lhd (aC.out.trans (O.out.below aT));have bf:o+j=x:=a0.out;have cn:wrap64 ((o:Int)+(j:Int))=(x:Int):=(by unfold wrap64;omega);clear aT;go_wp2_with fail;go_ret;exact ⟨cZ (sN bf.symm (zAk (Nat.le_of_eq bf) bT)),bp.out⟩
  | nd V l c=>
    change V=f at be;subst V;obtain ⟨d,K⟩:=eqx l.len;obtain ⟨u,T⟩:=eqx l.on;obtain ⟨ac,bc⟩:=eqx (l.len+c.len);obtain ⟨v,U⟩:=eqx (l.on+c.on);obtain ⟨a6,b0⟩:=eqx (max l.ht c.ht+1);obtain ⟨M,am⟩:=eqx l.num;obtain ⟨N,aq⟩:=eqx c.num;have b2:At8 ad f (ndL M N a6 ac v d u):=(by rw [<-K,<-T,<-bc,<-U,<-b0,<-am,<-aq];exact J.1);obtain ⟨bA,bB,bC,aM,aN,bD,bE,bF⟩:=i.at b2;change (f:Int) < (ax:Int) at b3;have cj:=m.len;have b5:=LT.len_nd f l c;have b8:=eV W.out m.l.sub;have ba:=eV W.out m.r.sub;have b9:(LT.nd f l c).ht=max l.ht c.ht+1:=rfl;have b6:u<=d:=(by rw [<-T,<-K];exact l.on_le);have ck:d<=1100:=oM;have aU:(LT.nd f l c).bits=l.bits++c.bits:=rfl;have aX:(if a then u else d - u)=l.bits.count a:=(by rw [<-T,<-K];exact jU l.bits a);have b6:u<=d:=(by rw [<-T,<-K];exact l.on_le);have cm:o<=1100:=oM;have bP:b≠wr.heap.size:=oM;have t:VisK (fun a=>a=b) wr ((wr.setCell ⟨b,3,none⟩ (.int .i64 (wrap64 (D+1)))).alloc (.cells #[(M:Int),(N:Int),(a6:Int),(ac:Int),(v:Int),(d:Int),(u:Int),.pointer none] 220)):=(VisK.set_tree i.blk _).alloc _;obtain ⟨F,aI,a0,Z,Y,ag,aD,aH,aF⟩:=hqq9 (L.trans t) m aa a9 S K am aq an;obtain ⟨bt,bu,aE,X,bq,c2⟩:=hqq6 b8 ba b9 aU aX b5;clear m a9 S aa K T bc U b0 am aq an b8 ba b9 aU aX b5 b2 J a5 i L t;go_wp2_with fail;refine (iF d u a _ oM b6).mono ?_;rintro g B ⟨rfl,z⟩;rw [bq.out];obtain ⟨s,aw⟩:=eqx (l.bits.count a);rw [aw];have O:=lhd (F.out.below z);have k:=(eB wr b (.int .i64 (wrap64 (D+1))) #[(M:Int),(N:Int),(a6:Int),(ac:Int),(v:Int),(d:Int),(u:Int),.pointer none]).below z (eB wr b (.int .i64 (wrap64 (D+1))) #[(M:Int),(N:Int),(a6:Int),(ac:Int),(v:Int),(d:Int),(u:Int),.pointer none]).lt;have ah:B.cell? ⟨wr.heap.size,0,none⟩=some (.int .i64 (M:Int)):=(by rw [k.cell 0];rfl);have c8:B.cell? ⟨wr.heap.size,1,none⟩=some (.int .i64 (N:Int)):=(by rw [k.cell 1];rfl);have c9:B.cell? ⟨wr.heap.size,5,none⟩=some (.int .i64 (d:Int)):=(by rw [k.cell 5];rfl);have bG:B.cell? ⟨wr.heap.size,7,none⟩=some (.pointer none):=(by rw [k.cell 7];rfl);have bV:wr.heap.size < B.heap.size:=k.lt;have ae:=lhd aw;clear k z aw;by_cases a1:e < s
    · have bH:decide ((e:Int) < (s:Int))=true:=zBy oM;have bI:decide (e < s)=true:=zBy a1;have E:=lhd (aDn (l:=l.bits) (r:=c.bits) (X.out ▸ Z.out) (X.out ▸ Y.out) (by rw [ae.out];exact a1));go_wp2_with fail;go_roundw
      case rel=>exact ⟨l,e,o,j,rfl,by rw [aD.out],rfl,aI.out.l,E.out.1,E.out.2,a0.out,O.out⟩
      case measure=>have a2:=aF.out;have ai:=bt.out;have a3:=aE.out;rw [aD.out] at ai;show fG q y (.int .i64 (M:Int)) < fG q y (.int .i64 ((f:Nat):Int));have bJ:fG q y (.int .i64 ((f:Nat):Int))=(LT.nd f l c).ht:=a2;omega
    · have bH:decide ((e:Int) < (s:Int))=false:=zBx oM;have bI:decide (e < s)=false:=zBx a1;have E:=lhd (aDm (l:=l.bits) (r:=c.bits) (X.out ▸ Z.out) (X.out ▸ Y.out) (by rw [ae.out];exact a1));go_wp2_with fail;go_roundw
      case rel=>exact ⟨c,e - s,o+d,j - d,congrArg (Value.int .i64) (show (e:Int) -(s:Int)=((e - s:Nat):Int) by omega),by rw [aH.out],congrArg (Value.int .i64) (show (o:Int)+(d:Int)=((o+d:Nat):Int) from rfl),aI.out.r,by
       have g:l.bits.length=d:=ag.out;rw [<-g];exact E.out.2.1,by
       have g:l.bits.length=d:=ag.out;rw [<-g,<-ae.out];exact E.out.2.2,by
       have g:l.bits.length=d:=ag.out;have bK:=E.out.1;rw [g] at bK;have cb:=a0.out;omega,O.out⟩
      case measure=>have a2:=aF.out;have ai:=bu.out;have a3:=aE.out;rw [aH.out] at ai;show fG q y (.int .i64 (N:Int)) < fG q y (.int .i64 ((f:Nat):Int));have bJ:fG q y (.int .i64 ((f:Nat):Int))=(LT.nd f l c).ht:=a2;omega
def oU (b:Nat) (d:List Bool) (c f:Nat) (a:Bool) (w:World) (e:TreeAt w b d) (m:d[c]?=some a) (k:(d.take c).count a=f) (i:TabW w) (j:0 < b):
 Calls prog 223 #[b,(f:Int),.bool a] w fun g o=>g=.returned (.int .i64 (c:Int))/\VisK (fun a=>a=b) w o:=by
 obtain ⟨n,rfl,e⟩:=e;exact rV b n c f a w e m k i j
def vV {w:World} {d c:Nat} {a:Option Addr} {l:List UInt8} (e:Rd w d 1 a c (l.map bv)):∀b,(convert 22 9 (.slice a c b)).run prog w=.ok (.string ⟨l.toArray⟩) w:=
 fun b=>jR (P:=prog) 22 9 5 underlying22 underlying5 underlying9 e
def yT (l:List UInt8) (a b:Nat):(⟨l.toArray⟩:ByteArray).extract a b=⟨((l.drop a).take (b - a)).toArray⟩:=by
 apply ByteArray.ext;rw [ByteArray.data_extract];apply Array.ext';rw [Array.toList_extract]
def aBZ (l:List UInt8):(⟨l.toArray⟩:ByteArray).size=l.length:=by simp [ByteArray.size]
section
variable (l : List UInt8) (w : World)
def pU (a:Nat) (b:a<=l.length):(Instr.slice 9 (.string ⟨l.toArray⟩) none (some (.int .i64 (a:Int))) none).run prog w=.ok (.string ⟨(l.take a).toArray⟩) w:=by
 rw [run_slice_string_h (P:=prog) (w:=w) 9 ⟨l.toArray⟩ underlying9 .i64 a oM (by rw [aBZ];omega)];rw [zBq,yT];simp
def aAJ (a:Nat) (b:a<=l.length):(Instr.sliceAt 9 (.string ⟨l.toArray⟩) none (some (.int .i64 (a:Int))) none).run prog w=.ok (.string ⟨(l.take a).toArray⟩) w:=by
 rw [run_sliceAt_string (h:=underlying9),pU l w a b]
end
end Go.Proofs.YtnmapianpjamnaaGreatDoor
