/- Lemmas of the walk. Conditions: each its own. -/
import Derived.Test.YtlghmcogeipojaaGreatDoorPn3
set_option linter.all false
set_option maxRecDepth 100000
set_option maxHeartbeats 4000000
open Go.Proofs.Tryz
namespace Go.Proofs.YtlghmcogeipojaaGreatDoor
open Go.RowKit Go Go.Sort Go.ChangeShapes Go.WideShapes Go.ChangeAt
section
def TreeEo (w:World) (F:Nat->Prop) (gt:Nat) (o:Option Tr):Prop:=
 ∃(k:Nat) (i:Option Addr) (j b:Nat) (g:List Value) (l:List Bool) (c:List Nat) (e n:Int),TX w F gt k i j b g l c e n/\b<=200/\((o=none/\e=-1/\c.Perm (List.range b))∨∃t:LT,o=some t.er/\t.In w g/\e=(t.num:Int)/\t.er.Ok/\t.len<=1100/\(t.nums++c).Perm (List.range b)/\t.blks.Nodup/\∀f,f∈t.blks->F f)
def TreeE (w:World) (F:Nat->Prop) (gt:Nat) (bs:List Bool):Prop:=∃o,cH o=bs/\TreeEo w F gt o
def TreeB (w:World) (b gt:Nat) (bs:List Bool):Prop:=TreeE w (λc=>b<=c) gt bs
section
variable {w w' : World} {F G : Nat -> Prop} {gt : Nat} {bs : List Bool} {o : Option Tr}
def TreeEo.at (k:TreeEo w F gt o):TreeO w gt o:=by
 obtain ⟨e,b,c,g,j,s,q,r,i,f,_,⟨rfl,rfl,_⟩|⟨t,rfl,p,rfl,l,n,_⟩⟩:=k;exact ⟨e,b,c,g,j,_,i,f.rd,.inl ⟨rfl,rfl⟩⟩;exact ⟨e,b,c,g,j,_,i,f.rd,.inr ⟨t,rfl,p,rfl,l,n⟩⟩
def TreeEo.b (k:TreeEo w F gt o) (c:Vis w w'):TreeEo w' F gt o:=by
 obtain ⟨j,e,f,s,y,v,i,u,z,l,q,b⟩:=k;obtain ⟨x,n⟩:=l.b c;refine ⟨j,e,f,s,y,v,i,u,x,n,q,?_⟩;rcases b with b |⟨t,g,r,p⟩;exact .inl b;exact .inr ⟨t,g,r.b c,p⟩
def LT.In.blt:∀ {t:LT} {e:List Value},t.In w e->∀b,b∈t.blks->b < w.heap.size:=λc=>rO c
def TreeEo.mono (q:TreeEo w F gt o) (i:∀b,b < w.heap.size->F b->G b):TreeEo w G gt o:=by
 obtain ⟨p,j,k,B,H,D,n,C,E,r,A,e⟩:=q;refine ⟨p,j,k,B,H,D,n,C,E,r.mono i,A,?_⟩;rcases e with e |⟨t,l,g,s,u,v,x,y,z⟩;exact .inl e;exact .inr ⟨t,l,g,s,u,v,x,y,λc f=>i c (g.blt c f) (z c f)⟩
def TreeEo.keep (s:TreeEo w F gt o) (j:Keep G w w') (i:∀b t c,t∈ [223,173,226,240,4,3]->Bk w b t c->F b->¬G b):TreeEo w' F gt o:=by
 obtain ⟨r,k,l,E,K,I,p,H,J,u,C,e⟩:=s;refine ⟨r,k,l,E,K,I,p,H,J,u.keep j λb t c ht=>i b t c (by simp at ht;rcases ht with rfl | rfl | rfl | rfl | rfl <;> decide),C,?_⟩;rcases e with e |⟨t,n,D,v,x,y,z,A,f⟩;exact .inl e;exact .inr ⟨t,n,D.keep (λ_ _ _ a=>a) (λq B c g=>j.d g (i _ _ _ dC g (f q B))),v,x,y,z,A,f⟩
def TreeEo.below (c:TreeEo w F gt o) (e:Below w.heap.size w w'):TreeEo w' F gt o:=c.keep (G:=λ_=>False) (kF e) λ_ _ _ _ _ _ b=>b
def TreeE.at (b:TreeE w F gt bs):TreeAt w gt bs:=by
 obtain ⟨o,c,b⟩:=b;exact ⟨o,c,b.at⟩
def TreeE.le (b:TreeE w F gt bs):bs.length<=1100:=b.at.le
def TreeE.b (b:TreeE w F gt bs) (e:Vis w w'):TreeE w' F gt bs:=by
 obtain ⟨o,c,b⟩:=b;exact ⟨o,c,b.b e⟩
def TreeE.mono (c:TreeE w F gt bs) (f:∀b,b < w.heap.size->F b->G b):TreeE w G gt bs:=by
 obtain ⟨o,e,c⟩:=c;exact ⟨o,e,c.mono f⟩
def TreeE.keep (c:TreeE w F gt bs) (i:Keep G w w') (g:∀b t e,t∈ [223,173,226,240,4,3]->Bk w b t e->F b->¬G b):TreeE w' F gt bs:=by
 obtain ⟨o,f,c⟩:=c;exact ⟨o,f,c.keep i g⟩
def TreeE.below (c:TreeE w F gt bs) (e:Below w.heap.size w w'):TreeE w' F gt bs:=c.keep (G:=λ_=>False) (kF e) λ_ _ _ _ _ _ b=>b
def TreeB.at {b} (c:TreeB w b gt bs):TreeAt w gt bs:=TreeE.at c
def TreeB.keep {c} (e:TreeB w c gt bs) (j:Keep F w w') (i:∀b,F b->b < c):TreeB w' c gt bs:=TreeE.keep e j λb _ _ _ _ g f=>by
 have:=i b f;have k:c<=b:=g;omega
def TreeB.below {B} (b:TreeB w B gt bs) (c:Below w.heap.size w w'):TreeB w' B gt bs:=TreeE.below b c
def TreeB.mono {B B'} (b:TreeB w B gt bs) (hB:B'<=B):TreeB w B' gt bs:=TreeE.mono b λe _ c=>zAk hB c
def TreeB.own {b} (e:TreeB w b gt bs):TreeE w (λc=>b<=c) gt bs:=e
end
def aFl {gt bs c w} (b:TreeAt w gt bs) (g:c < bs.length):
 Calls prog 148 #[gt,(c:Int)] w λf w'=>f=.returned (.tuple #[.bool (bs.getD c false),o0])/\VisK (λe=>e=gt) w w':=by
 obtain ⟨o,rfl,b⟩:=b;exact aJA b g
def mL (w:World) (b:Nat) (c:TypeId) (e:Nat):w.ownsRow b c e (.slice none 0 0) 0 []:=ki _ _ _ _
def TreeAt.a {w gt bs} (c:TreeAt w gt bs):∃b,Bk w gt 223 b:=by
 obtain ⟨o,f,c⟩:=c;obtain ⟨b,e,_⟩:=c.a;exact ⟨b,e⟩
def TreeE.W {w F gt bs} (b:TreeE w F gt bs):F gt:=by
 obtain ⟨_,_,_,_,_,_,_,_,_,_,_,b,_⟩:=b;exact b.W
def TreeB.base {w b gt bs} (c:TreeB w b gt bs):b<=gt:=TreeE.W c
def HtB (b c:Nat):Prop:=∀t:Tr,t.Ok->t.bits.length<=c->t.ht<=b
def HtB.mono {b c m} (e:HtB b c) (i:m<=c):HtB b m:=λt f g=>e t f (zAk g i)
def aH2 {b} (c:b<=1100):HtB 1100 b:=λt e f=>zAk e.a4 (zAk f c)
def TreeO.ht {w gt b} {o:Option Tr} (c:TreeO w gt o) (f:HtB b (cH o).length):oht o<=b:=by
 obtain ⟨_,_,_,_,_,_,_,_,⟨rfl,_⟩|⟨t,rfl,_,_,e,_⟩⟩:=c;exact zAp _;exact f _ e nL
def RankV.mono {gt b c w} (e:RankV gt b w) (i:b<=c):RankV gt c w:=by
 obtain ⟨d,f,g⟩:=e;exact ⟨d,zAk f i,g⟩
def RankV.keep {F gt b w w'} (c:RankV gt b w) (j:Keep F w w') (i:gt < w.heap.size) (g:¬F gt):RankV gt b w':=by
 obtain ⟨d,e,f⟩:=c;exact ⟨d,e,(j.cell (p:=⟨gt,3,none⟩) i g).trans f⟩
def aHg {gt g bs f} (c) {w} (e:TreeAt w gt bs) (p:f<=bs.length) (n:HtB g bs.length):
 Calls prog 205 #[gt,(f:Int),.bool c] w λi w'=>i=.returned (.int .i64 ((bs.take f).count c:Nat))/\VisK (λc=>c=gt) w w'/\RankV gt (g+1) w':=by
 obtain ⟨o,rfl,e⟩:=e;refine (aHh c e p).mono ?_;rintro i w' ⟨j,k,l⟩;exact ⟨j,k,l.mono (Nat.succ_le_succ (e.ht n))⟩
@[irreducible] def wcells (b:Nat->Value) (q r:Int):Array Value:=#[b 0,b 1,b 2,b 3,b 4,b 5,b 6,b 7,b 8,.int .i64 q,.int .i64 r]
def cK (b:Nat->Value) (c e):(wcells b c e)[0]?=some (b 0)/\(wcells b c e)[1]?=some (b 1)/\(wcells b c e)[2]?=some (b 2)/\(wcells b c e)[3]?=some (b 3)/\(wcells b c e)[4]?=some (b 4)/\(wcells b c e)[5]?=some (b 5)/\(wcells b c e)[6]?=some (b 6)/\(wcells b c e)[7]?=some (b 7)/\(wcells b c e)[8]?=some (b 8)/\(wcells b c e)[9]?=some (.int .i64 c)/\(wcells b c e)[10]?=some (.int .i64 e):=by
 unfold wcells;exact ⟨rfl,rfl,rfl,rfl,rfl,rfl,rfl,rfl,rfl,rfl,rfl⟩
def eS (b:Nat->Value) (c f e):(wcells b c f).setIfInBounds 10 (.int .i64 e)=wcells b c e:=by
 unfold wcells;rfl
def vZ (b:Nat->Value) (c e) {i} (s:i < 9):(wcells b c e)[i]?=some (b i):=by
 obtain ⟨f,g,j,k,l,n,p,q,r,_⟩:=cK b c e;rcases i with _ | _ | _ | _ | _ | _ | _ | _ | _ | i
 all_goals first | assumption | omega
def aF0 (c:Nat->Value) (f i) {b} (j:b < 9) (g):(wcells c f i).setIfInBounds b g=wcells (λe=>if e=b then g else c e) f i:=by
 unfold wcells;rcases b with _ | _ | _ | _ | _ | _ | _ | _ | _ | b
 all_goals first | rfl | omega
def Vis.Q {w w' f} {e:Nat->Value} {g i} (j:Vis w w') (k:Bk w f 181 (wcells e g i)):∃c,Bk w' f 181 (wcells e g c):=by
 rcases j.bu k with b |⟨c,b⟩;exact ⟨i,b⟩;rw [eS] at b;exact ⟨c,b⟩
def aNw {gt l gk f c:Nat} (lv x:Int) {k bs} {e:Nat} {b w} (ht:TreeAt w gt bs) (i:Bk w gk 3 #[(e:Int)]) (g:Bk w f 4 #[.bool b]) (p:Bk w c 3 #[k]) (u:e<=bs.length) (s:HtB l bs.length):
 Calls prog 204 #[.agg #[gt,(lv:Int),(x:Int)],gk,f,c] w λn w'=>n=.returned (.tuple #[])/\
  ∃w1,VisK (λb=>b=gt) w w1/\Bk w1 c 3 #[k]/\RankV gt (l+1) w1/\w'=w1.setCell c (.int .i64 ((bs.take e).count b:Nat)):=by
 have y:w.cell? gk=some (.int .i64 e):=(i.cell 0).trans rfl;have z:w.cell? f=some (.bool b):=(g.cell 0).trans rfl;have C:=i.lt;have D:=g.lt;have E:=p.lt;clear i g;go_enter func204,ntmps204;go_wp2_with fail;refine (aHg b (ht.below (bR.alloc nL _)) u s).mono ?_;rintro n w1 ⟨rfl,q,v⟩;have r:VisK (λb=>b=gt) w w1:=(kc (bR.alloc nL _)).trans q;have j:=r.1.d p dC dC;have A:w1.cell? c=some k:=(j.cell 0).trans rfl;have B:=j.frozen 0;clear q;go_wp2_with fail;go_end0;exact ⟨rfl,w1,r,j,v,rfl⟩
def Vis.bo {w w' e} {f:Nat->Value} {i p j} (b:Keep (λc=>c=e) w w') (k:Bk w e 181 (wcells f i p)) (l:Bk w' e 181 (wcells f i j)):Vis w w':=by
 refine ⟨b.os,b.tape,b.output,b.size,λc n _=>?_⟩;by_cases g:c=e;subst g;exact .inr (.inr ⟨_,j,k,by rw [eS];exact l⟩);exact .inl (b.block c n g)
def vN {y b gt:Nat} {H s} {S:Nat->Value} {n:Int} {lv r:Int} {w} {q:World->Int->Int->Prop} (a5:∀s w,(callFunc y s).run prog w=.ok (.enter y s) w) (B:Calls prog y s (w.alloc (.cells #[gt,(lv:Int),(r:Int)] 184)) λu e=>u=.returned (.tuple #[])/\
 ∃c i:Int,(Bk e b 181 (wcells S n c)/\Bk e w.heap.size 184 #[gt,(lv:Int),(r:Int)]/\gt < e.heap.size/\gt≠b/\e.cell? ⟨gt,3,none⟩=some (.int .i64 i))/\q e c i) (a4:#[.agg #[gt,(lv:Int),(r:Int)]]++H=s:=by simp):
 Calls prog 146 #[b,.agg #[gt,(lv:Int),(r:Int)],.func (.func y) #[] H] w λu w'=>u=.returned (.tuple #[])/\
  ∃e c i,q e c i/\Bk e b 181 (wcells S n c)/\Keep (λf=>f=b) e w'/\Bk w' b 181 (wcells S n (IntKind.i64.wrap (c+i))):=by
 obtain ⟨o,C⟩:=eqx (Obj.cells #[gt,(lv:Int),(r:Int)] 184);rw [C] at B;have L:=lhd C;clear C;go_enter func146,ntmps146;go_wp2_with fail;rw [L.out];refine B.mono ?_;rintro u e ⟨rfl,c,i,⟨E,D,R,P,T⟩,Q⟩;have a6:=D.lt;have O:=Bk.ne E D dC;clear B;go_wp2_with fail;refine wp_region_any kR<|bM (pJ:=(λ_ z=>Bk z b 181 (wcells S n (IntKind.i64.wrap (c+i))))) [9,10,11,12,13,14,15,16,17,18] (λf=>f=b) 10 [3,10] [is b,is b,is (.pointer (some ⟨b,10,none⟩)),is (.int .i64 c),is (.pointer (some w.heap.size)),is gt,is (.int .i64 i),is (.int .i64 (IntKind.i64.wrap (c+i))),is b,is (.pointer (some ⟨b,10,none⟩)),cO] _ rfl kR kR (E) (λz a8 l _ N=>kf l N l.lt) (λ_ _ _ l U=>kf l U l.lt) tA1 ?_ ?_
 .refine aL<|pH3 0 (.pointer (some b))<|pV3 0 9<|pV3 1 10<|sC3 (λ_ k _ A _ _ _ j _ _ _ v=>?_) ?_
  .have x:=A rfl;have Y:_=_:=j 2 11 kR rfl;have W:k.cell? ⟨b,10,none⟩=some (.int .i64 c):=(x.cell 10).trans (cK _ _ _).2.2.2.2.2.2.2.2.2.2;go_simp;exact kq v rfl
  refine pH3 4 (.pointer (some w.heap.size))<|pL3 4 13 (λk g=>have g:Keep (λf=>f=b) e k:=kD g;(((g.d D (λl=>O (show w.heap.size=b from l).symm)).cell 0).trans rfl:k.cell? ⟨w.heap.size,0,none⟩=some (.pointer (some gt)))) ?_;refine sC3 (λ_ k g _ _ _ _ j _ _ _ v=>?_) ?_
  .replace g:Keep (λf=>f=b) e k:=kD g;have Z:_=_:=j 5 14 kR rfl;go_simp;refine (aAX ((g.cell R P).trans T)).mono ?_;rintro u a9 ⟨rfl,M⟩;exact v _ _ (aE M) rfl
  refine pW3 3 12 6 15<|pV3 0 9<|pV3 8 17<|sC3 (λ_ k _ A _ _ _ j _ _ _ v=>?_) ?_
  .have x:=A rfl;have a1:_=_:=j 9 18 kR rfl;have a0:_=_:=j 7 16 kR rfl;have X:k.cell? ⟨b,10,none⟩=some (.int .i64 c):=(x.cell 10).trans (cK _ _ _).2.2.2.2.2.2.2.2.2.2;have a3:=x.frozen 10;go_simp;refine v (.bool true) _ (aW (ka (F:=λf=>f=b) (ke _ _) (p:=⟨b,10,none⟩) (.inl rfl) _)) ?_;rw [<-eS S n c];exact x.set 10 _
  exact aB
 .intro a2 K g j I;replace g:Keep (λf=>f=b) e K:=kD g;obtain ⟨a7,J⟩:∃V,(λ_ z=>Bk z b 181 (wcells S n (IntKind.i64.wrap (c+i)))) V K:=I 10 dC;simp only [zqq];clear j I;go_wp2_with fail;go_end0;exact ⟨rfl,e,c,i,Q,E,g,J⟩
def aND {g gt E gk I c:Nat} {x:Nat->Value} {A B:Int} (lv i:Int) {ag bs} {f:Nat} {b w} (k:Bk w g 181 (wcells x A B)) (ht:TreeAt w gt bs) (j:Bk w gk 3 #[(f:Int)]) (K:Bk w I 4 #[.bool b]) (D:Bk w c 3 #[ag]) (a7:f<=bs.length) (a2:HtB E bs.length):
 Calls prog 146 #[g,.agg #[gt,(lv:Int),(i:Int)],.func (.func 204) #[] #[gk,I,c]] w λe w'=>e=.returned (.tuple #[])/\
  VisF (λb=>b=c) w w'/\Keep (λb=>b=g∨b=gt∨b=c) w w'/\Bk w' c 3 #[.int .i64 ((bs.take f).count b:Nat)]/\∃d:Nat,d<=E+1/\Bk w' g 181 (wcells x A (IntKind.i64.wrap (B+d))):=by
 have u:=(kg w.heap.size w).alloc nL (.cells #[gt,(lv:Int),(i:Int)] 184);have a9:=kd w 184 #[gt,(lv:Int),(i:Int)];have ai:=j.lt;have aj:=K.lt;have ak:=D.lt;have ae:=k.lt;have af:=Bk.ne D k dC;have Y:=j;have H:=k;clear j k;have a4:=aNw lv i (ht.below u) (Y.alloc _) (K.alloc _) (D.alloc _) a7 a2;refine (vN (S:=x) (n:=A) (q:=λy l r=>B=l/\(∃d:Nat,d<=E+1/\(d:Int)=r)/\VisF (λb=>b=c) w y/\Keep (λb=>b=g∨b=gt∨b=c) w y/\Bk y c 3 #[.int .i64 ((bs.take f).count b:Nat)]) (mM func204 kR kR) (a4.mono ?_)).mono ?_
 rotate_left
 rintro e w' ⟨rfl,y,l,r,⟨rfl,⟨d,C,rfl⟩,a1,z,J⟩,k,j,W⟩;exact ⟨rfl,VisF.trans a1 (VisF.C (Vis.bo j k W)),z.trans (j.mono λb _ e=>.inl e),j.d J (λe=>Bk.ne k J dC (show c=g from e).symm),d,C,W⟩;rintro e al ⟨rfl,w1,v,P,R,rfl⟩;have M:gt≠g:=by rintro rfl;obtain ⟨_,z⟩:=ht.a;exact absurd (aU z H).1 dC
 obtain ⟨l,ab,ad⟩:∃l,B=l/\Bk w1 g 181 (wcells x A l):=⟨B,rfl,v.2.d (H.below u ae) (λe=>M (show g=gt from e).symm)⟩;have a8:c≠gt:=by rintro rfl;obtain ⟨_,z⟩:=ht.a;exact absurd (aU z D).1 dC
 obtain ⟨d,a5,C⟩:=R.keep (F:=λb=>b=c) (ka (F:=λb=>b=c) (ke _ _) (p:=c) (.inl rfl) (.int .i64 ((bs.take f).count b:Nat))) (zAl ht.lt (zAk u.size v.1.size)) (λe=>a8 (show gt=c from e).symm);clear R;have X:=ad.m (p:=c) (λs=>af s.symm) (.int .i64 ((bs.take f).count b:Nat));have aa:=ht.b ((kb u).trans v.1);have U:TreeAt (w1.setCell c (.int .i64 ((bs.take f).count b:Nat))) gt bs:=aa.same λZ t ah N s=>s.m (λe=>by
  have a0:Z=c:=e;subst a0;rw [<-(aU P s).1] at N;exact absurd N dC) _
 obtain ⟨r,ac,V⟩:∃r:Int,(d:Int)=r/\(w1.setCell c (.int .i64 ((bs.take f).count b:Nat))).cell? ⟨gt,3,none⟩=some (.int .i64 r):=⟨_,rfl,C⟩;clear C;have T:=(v.1.d a9 dC dC).m (p:=c) (λs=>absurd (show w.heap.size=c from s) oM) (.int .i64 ((bs.take f).count b:Nat));have Q:=P.set 0 (.int .i64 ((bs.take f).count b:Nat));have L:VisF (λb=>b=c) w (w1.setCell c (.int .i64 ((bs.take f).count b:Nat))):=VisF.put (F:=λb=>b=c) (VisF.C ((kb u).trans v.1)) (p:=c) (.inl rfl) _;have O:Keep (λb=>b=g∨b=gt∨b=c) w (w1.setCell c (.int .i64 ((bs.take f).count b:Nat))):=ka (F:=λb=>b=g∨b=gt∨b=c) ((kF u).trans (v.2.mono λb _ e=>.inr (.inl e))) (p:=c) (.inl (.inr (.inr rfl))) _;obtain ⟨y,a3⟩:=eqx (w1.setCell c (.int .i64 ((bs.take f).count b:Nat)));rw [a3] at X U V T Q L O⊢;have a6:gt≠g:=M;exact ⟨rfl,l,r,⟨X,T,U.lt,a6,V⟩,ab,⟨d,a5,ac⟩,L,O,Q⟩
def aFi {gv gt H} {S:Nat->Value} {n u} (lv e) {bs k} (b) {w} (j:Bk w gv 181 (wcells S n u)) (ht:TreeAt w gt bs) (E:k<=bs.length) (A:HtB H bs.length):
 Calls prog 149 #[gv,.agg #[gt,(lv:Int),(e:Int)],(k:Int),.bool b] w λc w'=>c=.returned (.int .i64 ((bs.take k).count b:Nat))/\VisK (λb=>b=gv∨b=gt) w w'/\∃d:Nat,d<=H+1/\Bk w' gv 181 (wcells S n (IntKind.i64.wrap (u+d))):=by
 have M:∀(p:Fn) (first l:Array Value) (w:World),(Instr.makeFunc p first l).run prog w=.ok (.func p first l) w:=λ_ _ _ _=>rfl;obtain ⟨i,g⟩:=eqx ((((w.alloc (.cells #[gt,(lv:Int),(e:Int)] 184)).alloc (.cells #[(k:Int)] 3)).alloc (.cells #[.bool b] 4)).alloc (.cells #[o0] 3));have hB:Below w.heap.size w i:=by rw [<-g];exact (((bR.alloc nL _).alloc zs _).alloc zt _).alloc zt _
 have x:Bk i (w.heap.size+1) 3 #[(k:Int)]:=by rw [<-g];have f:=kd (w.alloc (.cells #[gt,(lv:Int),(e:Int)] 184)) 3 #[(k:Int)];rw [show (w.alloc (.cells #[gt,(lv:Int),(e:Int)] 184)).heap.size=w.heap.size+1 from by simp] at f;exact (f.alloc _).alloc _
 have y:Bk i (w.heap.size+1+1) 4 #[.bool b]:=by rw [<-g];have f:=kd ((w.alloc (.cells #[gt,(lv:Int),(e:Int)] 184)).alloc (.cells #[(k:Int)] 3)) 4 #[.bool b];rw [show ((w.alloc (.cells #[gt,(lv:Int),(e:Int)] 184)).alloc (.cells #[(k:Int)] 3)).heap.size=w.heap.size+1+1 from by simp] at f;exact f.alloc _
 have z:Bk i (w.heap.size+1+1+1) 3 #[o0]:=by rw [<-g];have f:=kd (((w.alloc (.cells #[gt,(lv:Int),(e:Int)] 184)).alloc (.cells #[(k:Int)] 3)).alloc (.cells #[.bool b] 4)) 3 #[o0];rw [show (((w.alloc (.cells #[gt,(lv:Int),(e:Int)] 184)).alloc (.cells #[(k:Int)] 3)).alloc (.cells #[.bool b] 4)).heap.size=w.heap.size+1+1+1 from by simp] at f;exact f
 have K:=j.below hB j.lt;have I:=ht.below hB;have v:=lhd g;clear j ht g;go_enter func149,ntmps149;go_wp2_with fail;rw [v.out];refine (aND lv e K I x y z E A).mono ?_;rintro c w1 ⟨rfl,s,q,r,J⟩;have C:Vis w w1:=VisF.ak (VisF.trans (VisF.C (kb hB)) s) (λb B c=>by omega);have D:Keep (λb=>b=gv∨b=gt) w w1:=(kF hB).trans' q (λb B c=>by
  rcases c with c | c | c;exact .inl c;exact .inr c
  .omega)
 have L:w1.cell? ⟨w.heap.size+1+1+1,0,none⟩=some (.int .i64 ((bs.take k).count b:Nat)):=(r.cell 0).trans rfl;clear s q r;go_wp2_with fail;go_ret;exact ⟨rfl,⟨C,D⟩,J⟩
def tN {gv gt} {S:Nat->Value} {n v} (lv e) {bs k} (b) {w} (j:Bk w gv 181 (wcells S n v)) (ht:TreeAt w gt bs) (i:k<=bs.length):
 Calls prog 149 #[gv,.agg #[gt,(lv:Int),(e:Int)],(k:Int),.bool b] w λc w'=>c=.returned (.int .i64 ((bs.take k).count b:Nat))/\VisK (λb=>b=gv∨b=gt) w w':=
 (aFi lv e b j ht i (aH2 ht.le)).mono λc w' ⟨f,g,_⟩=>⟨f,g⟩
def tD (e:List Nat):∀b∈e.map sv,b.oneCell'=true:=by
 intro b c;obtain ⟨f,_,rfl⟩:=zAy.1 c;rfl
def dQ (t:List UInt8):List Nat:=t.map (λb=>b.toNat+1)
def aG (t:List UInt8):List Nat:=dQ t++ [0]
def aO (t):(aG t).length=t.length+1:=by simp [aG,dQ]
def eX (t):∀e∈aG t,e < 257:=by
 intro e c;unfold aG dQ at c;rcases zCp.1 c with b | b;obtain ⟨f,_,rfl⟩:=zAy.1 b;have:=f.toNat_lt;omega;simp at b;omega
def rZ (b:UInt8) (w:World):
 Calls prog 100 #[.int .u8 b.toNat] w λc w'=>c=.returned (.int .i64 (b.toNat+1:Nat))/\Below w.heap.size w w':=by
 have f:=b.toNat_lt;have e:IntKind.i64.wrap b.toNat=(b.toNat:Int):=zu
 go_enter func100,ntmps100;go_wp2;go_ret;exact ⟨fM oM,kg _ _⟩
def aA2 {gs:Nat} (ad:Nat) {A} {m c B:Nat} {t w} (s:Bk w gs 22 #[.slice A m c]) (r:Rd w B 1 A m (t.map bv)) (hB:B<=w.heap.size) (af:m<=1000):
 Calls prog 80 #[.slice (some gs) 1 1] w λC w'=>∃i j,C=.returned (.slice i (m+1) j)/\Made w' w.heap.size 3 1 i (m+1) j ((aG t).map sv)/\Below w.heap.size w w':=by
 obtain ⟨S,I,P,Q,R⟩:=info_parts gI;have O:t.length=m:=by simpa using r.1
 have Z:w.cell? gs=some (.slice A m c):=(s.cell 0).trans rfl;have a2:=s.lt;have Y:=(r.mono hB);have y:=lhd O;clear s r O;go_enter func80,ntmps80;go_wp2_with fail;go_loopw [3,10] (λx g wr=>∃b:Nat,b<=1/\g=.int .i64 b/\wr.ownsRow w.heap.size 3 1 x (if b=0 then 0 else m) ((if b=0 then [] else dQ t).map sv)/\Below w.heap.size w wr) (λ_ g _=>1 -(intOf g).toNat)
 case atStart=>exact ⟨0,by omega,rfl,ki _ _ _ _,kg _ _⟩
 case round=>
  obtain ⟨b,a3,rfl,f,e⟩:=hrel;have l:=e.size;rcases b with _ | b
  .have ac:wr.cell? gs=some (.slice A m c):=(e.cell a2).trans Z;have X:=f;have V:=e;clear f e;go_wp2_with fail;obtain ⟨z,a0⟩:∃z,z=wr:=⟨_,rfl⟩;subst a0;go_loopw [3,16] (λx g T=>∃b:Nat,b<=m/\g=.int .i64 b/\T.ownsRow w.heap.size 3 1 x b ((dQ (t.take b)).map sv)/\Below w.heap.size w T) (λ_ g _=>m -(intOf g).toNat)
   case atStart=>exact ⟨0,by omega,rfl,X,V⟩
   case round=>
    obtain ⟨b,a3,rfl,f,e⟩:=hrel;have l:=e.size;by_cases K:b < m
    .have a5:b < t.length:=(by rw [y.out];exact K);obtain ⟨n,v⟩:∃n,t[b]?=some n:=⟨t[b],zAa a5⟩;obtain ⟨ab,ag,ah,rfl,ae,u,a1⟩:=(Y.below e).get K;rw [zAf,v] at u;simp at u;subst u;have N:t.take (b+1)=t.take b++ [n]:=(by rw [zAv,v];rfl);unfold bv at a1;have U:=lhd N;clear N v;go_wp2_with fail;refine (rZ n _).mono ?_;rintro C w1 ⟨rfl,E⟩;have L:=aP f E;have H:=e.trans (E.mono l);have M:=H.size;go_wp2_with (at_builtin;refine bP _ rfl (.tmp 20) (.tmp 23) _ rfl w.heap.size 3 S (.int .i64 0) 1 8 underlying27 I P Q R rfl dC _ b _ rfl L rfl rfl (by simp [Value.oneCell']) zx oM M ?_;intro a9 aa q k a8 D);have p:=aX H L k M;clear k D;go_roundw
     case rel=>refine ⟨b+1,by omega,by go_num,?_,p⟩;rw [U.out,dQ,zAz,zAz];exact q
     case measure=>exact zr
    .have a6:b=m:=oM;subst a6;rw [zAg (by rw [y.out];omega)] at f;go_wp2_with fail;go_roundw
     case rel=>exact ⟨1,by omega,by go_num,f,e⟩
     case measure=>simp [intOf]
  .have a4:b=0:=oM;subst a4;rw [zBw oM,zBw oM] at f;have J:(aG t).map sv=(dQ t).map sv++ [.int .i64 0]:=(by simp [aG,sv]);have W:=lhd J;clear J;go_wp2_with (at_builtin;refine bP _ rfl (.tmp 27) (.tmp 28) _ rfl w.heap.size 3 S (.int .i64 0) 1 8 underlying27 I P Q R rfl dC _ m _ rfl f rfl rfl (by simp [Value.oneCell']) zx oM l ?_;intro a9 aa q k a8 D);have p:=aX e f k l;obtain ⟨i,j,rfl,a7⟩:=aR q;go_ret;exact ⟨i,j,rfl,by rw [W.out];exact a7,p⟩
def aBV {A:Option Addr} {n:Nat} (b:Nat) {B:Nat} {l:List Nat} {w:World} (g:Rd w B 1 A n (l.map sv)) (hB:B<=w.heap.size) (E:n<=1073741824):
 Calls prog 81 #[.slice A n b] w λk w'=>∃e f,k=.returned (.slice e n f)/\Made w' w.heap.size 3 1 e n f (l.map sv)/\Below w.heap.size w w':=by
 obtain ⟨C,r,x,y,z⟩:=info_parts gI;have H:∀(w:World) (a:Option Addr) (n b:Nat),(binOp .eql 27 (.slice a n b) (.slice none 0 0)).run prog w=.ok (.bool a.isNone) w:=λw a n b=>Lib.run_eql_slice_nil w _ _ a n b _ _ underlying27;rcases A with _ | a
 .have v:n=0:=by
   rcases zBa n with c | c;exact c
   .obtain ⟨_,_,c,_⟩:=g.2 c;cases c
  subst v;have s:l= []:=(by have:=g.1;simp only [zBc,zFH] at this;exact zBk this);subst s;go_enter func81,ntmps81;go_wp2;go_ret;exact ⟨none,0,rfl,⟨ki _ _ _ _,Rd.nil _ _ _ _,zAs _,zAp _⟩,kg _ _⟩
 .have j:=g;clear g;go_enter func81,ntmps81;go_wp2_with (at_builtin;refine bE _ rfl (.tmp 5) (.tmp 6) _ rfl w.heap.size 3 C (.int .i64 0) 1 8 underlying27 r x y z rfl dC (.slice (some w.heap.size) 0 0) 0 [] rfl (kX w 3 1) w.heap.size (some a) n b _ rfl ((j.mono hB).alloc nL _) (tD _) zx oM zs ?_;intro I J i q D);have p:=aX ((kg w.heap.size w).alloc nL _) (kX w 3 1) q zs;rw [zBi,zDH] at i;obtain ⟨e,f,rfl,u⟩:=aR i;go_wp2;go_ret;exact ⟨e,f,rfl,u,p⟩
end
section
def aN (b:List Nat) (c:Nat):Int:=match b[c]? with
 | some e=>(e:Int)
 | none=>-1
def aNQ {b c} (e:c < b.length):aN b c=(b[c]:Int):=by
 unfold aN;rw [zAa e]
def mG {b} {c x:Nat} (e:b[c]?=some x):aN b c=(x:Int):=by
 unfold aN;rw [e]
def pC {l p} (b:l.length<=p):aN l p=-1:=by
 unfold aN;rw [zBg b]
def lB {l p} (b:p < l.length):0<=aN l p:=by
 rw [aNQ b];omega
section
variable (a : Nat -> Int)
def eqW (w b c:Nat):Prop:=∀m,m < w->a (b+m)=a (c+m)
def ltW (w c e:Nat):Prop:=∃b,b < w/\(∀m,m < b->a (c+m)=a (e+m))/\a (c+b) < a (e+b)
variable {a}
def eqW.symm {w b c} (e:eqW a w b c):eqW a w c b:=λm f=>(e m f).symm
def eqW.trans {w c e f} (g:eqW a w c e) (i:eqW a w e f):eqW a w c f:=λm b=>(g m b).trans (i m b)
def eqW.refl (w b):eqW a w b b:=λ_ _=>rfl
def rM (w e f):ltW a w e f∨eqW a w e f∨ltW a w f e:=by
 induction w with
 | zero=>exact .inr (.inl λm j=>absurd j oM)
 | succ w k=>
  rcases k with ⟨i,b,c⟩| g |⟨i,b,c⟩;exact .inl ⟨i,by omega,c⟩;rcases Int.lt_trichotomy (a (e+w)) (a (f+w)) with b | b | b;exact .inl ⟨w,by omega,g,b⟩;refine .inr (.inl λm j=>?_);rcases zBe m w with c | c;exact g m c;have:m=w:=oM;subst this;exact b;exact .inr (.inr ⟨w,by omega,g.symm,b⟩);exact .inr (.inr ⟨i,by omega,c⟩)
def ltW.not_eq {w b c} (e:ltW a w b c):¬eqW a w b c:=by
 obtain ⟨i,f,j,k⟩:=e;intro g;have:=g i f;omega
def ltW.trans {w j k l} (r:ltW a w j k) (s:ltW a w k l):ltW a w j l:=by
 obtain ⟨e,n,f,p⟩:=r;obtain ⟨i,u,g,q⟩:=s;rcases zDD e i with c | c | c;exact ⟨e,n,λm b=>(f m b).trans (g m oM),by rw [<-g e c];exact p⟩;subst c;exact ⟨e,n,λm b=>(f m b).trans (g m b),Int.lt_trans p q⟩;exact ⟨i,u,λm b=>(f m oM).trans (g m b),by rw [f i c];exact q⟩
def ltW.irrefl {w b} (c:ltW a w b b):False:=c.not_eq (eqW.refl _ _)
def ltW.asymm {w b c} (e:ltW a w b c) (f:ltW a w c b):False:=(e.trans f).irrefl
def ltW.eq_right {w c e f} (j:ltW a w c e) (b:eqW a w e f):ltW a w c f:=by
 obtain ⟨g,i,l,n⟩:=j;exact ⟨g,i,λm k=>(l m k).trans (b m oM),by rw [<-b g i];exact n⟩
def ltW.eq_left {w c e f} (b:eqW a w c e) (j:ltW a w e f):ltW a w c f:=by
 obtain ⟨g,i,l,n⟩:=j;exact ⟨g,i,λm k=>(b m oM).trans (l m k),by rw [b g i];exact n⟩
def ltW.b5 {w g c e} (f:ltW a w g c) (i:¬ltW a w e c):ltW a w g e:=by
 rcases rM (a:=a) w c e with b | b | b;exact f.trans b;exact f.eq_right b;exact absurd b i
def aGW (w c e):eqW a (w+w) c e↔eqW a w c e/\eqW a w (c+w) (e+w):=by
 constructor
 .intro b;refine ⟨λm f=>b m oM,λm f=>?_⟩;have:=b (w+m) oM;rwa [<-zDp,<-zDp] at this
 .intro ⟨g,i⟩ m f;rcases zBe m w with b | b;exact g m b
  .have:=i (m - w) oM;rwa [show c+w+(m - w)=c+m by omega,show e+w+(m - w)=e+m by omega] at this
def aGJ (w c e):ltW a (w+w) c e↔ltW a w c e∨(eqW a w c e/\ltW a w (c+w) (e+w)):=by
 constructor
 .intro ⟨b,j,f,i⟩;rcases zBe b w with g | g;exact .inl ⟨b,g,f,i⟩
  .refine .inr ⟨λm k=>f m oM,b - w,by omega,λm k=>?_,?_⟩
   .have:=f (w+m) oM;rwa [<-zDp,<-zDp] at this
   .rwa [show c+w+(b - w)=c+b by omega,show e+w+(b - w)=e+b by omega]
 .rintro (⟨b,j,f,i⟩|⟨l,b,j,f,i⟩);exact ⟨b,by omega,f,i⟩
  .refine ⟨w+b,by omega,λm k=>?_,by rwa [<-zDp,<-zDp]⟩;rcases zBe m w with g | g;exact l m g
   .have:=f (m - w) oM;rwa [show c+w+(m - w)=c+m by omega,show e+w+(m - w)=e+m by omega] at this
def RankOk (a e:Nat->Int) (w:Nat):Prop:=∀b c,e b < e c↔ltW a w b c
def RankOk.eq {e:Nat->Int} {w} (g:RankOk a e w) (b c):e b=e c↔eqW a w b c:=by
 constructor;intro i;rcases rM (a:=a) w b c with f | f | f;have:=(g b c).2 f;omega;exact f;have:=(g c b).2 f;omega;intro i;have f:¬(e b < e c):=λj=>((g b c).1 j).not_eq i;have k:¬(e c < e b):=λj=>((g c b).1 j).not_eq i.symm;omega
def lV (b:Nat->Int) (w c e:Nat):Int:=if b c≠b e then b c - b e else b (c+w) - b (e+w)
def zF {j:Nat->Int} {w} (f:RankOk a j w) (c e):lV j w c e < 0↔ltW a (w+w) c e:=by
 unfold lV;rw [aGJ];by_cases i:j c=j e
 .rw [zBw (by simpa using i)];have k:¬ltW a w c e:=λn=>by have:=(f c e).2 n;omega
  have l:=(f.eq c e).1 i;have g:=f (c+w) (e+w);constructor;intro b;exact .inr ⟨l,g.1 oM⟩;rintro (b |⟨_,b⟩);exact absurd b k;have:=g.2 b;omega
 rw [zBx i];have g:=f c e;constructor;intro b;exact .inl (g.1 oM);rintro (b |⟨b,_⟩);have:=g.2 b;omega;exact absurd ((f.eq c e).2 b) i
def aMS {e:Nat->Int} {w} (i:RankOk a e w) (b c):lV e w b c=0↔eqW a (w+w) b c:=by
 unfold lV;rw [aGW];by_cases f:e b=e c;rw [zBw (by simpa using f)];constructor;intro g;exact ⟨(i.eq b c).1 f,(i.eq _ _).1 oM⟩;intro ⟨_,g⟩;have:=(i.eq _ _).2 g;omega;rw [zBx f];constructor;intro g;exact absurd (show e b=e c by omega) f;intro ⟨g,_⟩;exact absurd ((i.eq b c).2 g) f
def cN (o:Nat->Nat->Int) (b:Nat->Nat):Nat->Nat
 | 0=>0
 | i+1=>cN o b i+(if o (b i) (b (i+1))≠0 then 1 else 0)
def aNp (o:Nat->Nat->Int) (b c):cN o b c<=cN o b (c+1)/\cN o b (c+1)<=cN o b c+1:=by
 show cN o b c<=cN o b c+_/\cN o b c+_<=cN o b c+1;split <;> omega
def yC (o:Nat->Nat->Int) (b c d):cN o b c<=cN o b (c+d)/\cN o b (c+d)<=cN o b c+d:=by
 induction d with
 | zero=>exact ⟨zAs _,zAs _⟩
 | succ d e=>
  have:=aNp o b (c+d);rw [<-zDp];omega
def aDo {o:Nat->Nat->Int} {c w q} (l:∀b p,o b p=0↔eqW a w b p) (u:∀b,b+1 < q->¬ltW a w (c (b+1)) (c b)) (b d) (y:b+d < q):
 (cN o c b < cN o c (b+d)↔ltW a w (c b) (c (b+d)))/\¬ltW a w (c (b+d)) (c b):=by
 induction d with
 | zero=>exact ⟨⟨λe=>absurd e zs,λe=>e.irrefl.elim⟩,λe=>e.irrefl⟩
 | succ d v=>
  obtain ⟨r,i⟩:=v oM;have j:=u (b+d) oM;have x:=yC o c b d;have g:cN o c (b+(d+1))=cN o c (b+d)+(if o (c (b+d)) (c (b+d+1))≠0 then 1 else 0):=rfl;rw [show b+(d+1)=b+d+1 from rfl] at g⊢;have s:¬ltW a w (c (b+d+1)) (c b):=λe=>j (e.b5 i);refine ⟨?_,s⟩;by_cases f:o (c (b+d)) (c (b+d+1))=0;have n:=(l _ _).1 f;rw [g,zBw (by simpa using f),zBq,r];exact ⟨λe=>e.eq_right n,λe=>e.eq_right n.symm⟩;rw [g,zBx f];refine ⟨λ_=>?_,λ_=>by omega⟩;have k:ltW a w (c (b+d)) (c (b+d+1)):=(by rcases rM (a:=a) w (c (b+d)) (c (b+d+1)) with e | e | e;exact e;exact absurd ((l _ _).2 e) f;exact absurd e j);rcases rM (a:=a) w (c b) (c (b+d)) with e | e | e;exact e.trans k;exact ltW.eq_left e k;exact absurd e i
end
def aHP {l w b c} (n:l.length<=w) (i:b < l.length) (k:c < l.length) (j:b≠c):¬eqW (aN l) w b c:=by
 intro f;rcases zBe b c with g | g;have e:=f (l.length - c) oM;rw [pC (show l.length<=c+(l.length - c) by omega)] at e;have:=lB (l:=l) (p:=b+(l.length - c)) oM;omega;have e:=f (l.length - b) oM;rw [pC (show l.length<=b+(l.length - b) by omega)] at e;have:=lB (l:=l) (p:=c+(l.length - b)) oM;omega
def aIO {c i} {o:Nat->Nat->Int} {g w} (J:0 < w) (B:∀b e,o b e=0↔eqW (aN c) w b e) (C:∀b,b+1 < c.length->¬ltW (aN c) w (g (b+1)) (g b)) (s:i.length=c.length) (A:∀b,b < c.length->i[g b]?=some (cN o g b)) (D:∀f,f < c.length->∃b,b < c.length/\g b=f):RankOk (aN c) (aN i) w:=by
 have L:∀b e,b < c.length->e < c.length->(aN i (g b) < aN i (g e)↔ltW (aN c) w (g b) (g e)):=by intro b e x y;rw [mG (A b x),mG (A e y)];rcases zBe b e with H | H;have:=(aDo B C b (e - b) oM).1;rw [show b+(e - b)=e by omega] at this;rw [<-this];omega;have r:=aDo B C e (b - e) oM;rw [show e+(b - e)=b by omega] at r;have v:=(yC o g e (b - e)).1;rw [show e+(b - e)=b by omega] at v;exact ⟨λk=>absurd k oM,λk=>absurd k r.2⟩
 intro f n;rcases zBe f c.length with q | q;obtain ⟨b,x,rfl⟩:=D f q;rcases zBe n c.length with j | j;obtain ⟨e,y,rfl⟩:=D n j;exact L b e x y;have r:=lB (l:=i) (p:=g b) (by rw [s];exact q);have v:=pC (l:=i) (p:=n) (by rw [s];exact j);refine ⟨λk=>absurd k oM,λ⟨z,K,E,u⟩=>?_⟩;exfalso;have M:=lB (l:=c) (p:=g b) q;rcases z with _ | z;rw [zBq,zBq,pC j] at u;omega;have:=E 0 oM;rw [zBq,zBq,pC j] at this;omega;have v:=pC (l:=i) (p:=f) (by rw [s];exact q);rcases zBe n c.length with j | j;have r:=lB (l:=i) (p:=n) (by rw [s];exact j);refine ⟨λ_=>⟨0,J,λm I=>absurd I oM,?_⟩,λ_=>by omega⟩;rw [zBq,zBq,pC q];have:=lB (l:=c) (p:=n) j;omega;have r:=pC (l:=i) (p:=n) (by rw [s];exact j);refine ⟨λk=>absurd k oM,λ⟨z,K,E,u⟩=>?_⟩;rw [pC oM,pC oM] at u;exact absurd u oM
def aOw {a:Nat->Int} {o:Nat->Nat->Int} {b w c} (l:∀i j,o i j=0↔eqW a w i j) (n:∀i,i+1 < c->¬ltW a w (b (i+1)) (b i)) (u:0 < c) (s:cN o b (c - 1)=c - 1) {i j} (q:i < j) (r:j < c):ltW a w (b i) (b j):=by
 have f:=yC o b 0 i;have g:=yC o b i (j - i);have k:=yC o b j (c - 1 - j);have p:cN o b 0=0:=rfl;rw [zBi] at f;rw [show i+(j - i)=j by omega] at g;rw [show j+(c - 1 - j)=c - 1 by omega] at k;have e:=(aDo l n i (j - i) oM).1;rw [show i+(j - i)=j by omega] at e;exact e.1 oM
def aNq {o:Nat->Nat->Int} {c n} (e:∀b,b+1 < n->o (c b) (c (b+1))≠0) (b) (f:b < n):cN o c b=b:=by
 induction b with
 | zero=>rfl
 | succ b g=>
  show cN o c b+_=_;rw [zBx (e b f),g oM]
def aGu (b):RankOk (aN b) (aN b) 1:=by
 intro j k;constructor;intro c;exact ⟨0,by omega,λm f=>absurd f oM,c⟩;rintro ⟨g,i,_,e⟩;have:g=0:=oM;subst this;exact e
end
structure OrdAt (W:World) (gw gn gr:Nat) (w n:Nat) (A:Option Addr) (c:Nat) (R:List Nat):Prop where
 wide:W.cell? gw=some (.int .i64 (w:Int))
 len:W.cell? gn=some (.int .i64 (n:Int))
 U:W.cell? gr=some (.slice A n c)
 rd:Rd W W.heap.size 1 A n (R.map sv)
def OrdAt.drewN {f k i j w l g c e} (b:OrdAt f k i j w l c g e) (n):OrdAt (f.drewN n) k i j w l c g e:=⟨b.wide,b.len,b.U,b.rd⟩
def OrdAt.at {j r p q w l n g i} (s:OrdAt j r p q w l g n i) {f} (v:f < l):∃(b c e:Nat),g=some ⟨b,c,none⟩/\i[f]?=some e/\j.cell? ⟨b,c+f,none⟩=some (.int .i64 e):=by
 obtain ⟨b,c,z,rfl,y,k,u⟩:=s.rd.get v;rw [zAf] at k;obtain ⟨e,x,rfl⟩:=zEF.1 k;exact ⟨b,c,e,rfl,x,u⟩
def aCB {gw gn gr w n c j R i W} (b:OrdAt W gw gn gr w n j c R) (D:w<=1000) (C:n<=1000) (B:i < n):
 Calls prog 82 #[(i:Int),gw,gn,gr] W λk w'=>k=.returned (.int .i64 (aN R (i+w)))/\∃s,w'=W.drewN s:=by
 have z:R.length=n:=by simpa using b.rd.1
 have v:=b.wide;have x:=b.len;have y:=b.U;by_cases q:i+w < n
 .have r:(i:Int)+w < n:=oM;obtain ⟨u,E,H,rfl,g,A⟩:=b.at q;have e:=mG g;have f:=lhd e;clear g b e;go_enter func82,ntmps82;go_wp2;go_ret;exact ⟨by rw [f.out];first | rfl | simp_all,0,rfl⟩
 .have r:¬((i:Int)+w < n):=oM;have e:=pC (l:=R) (p:=i+w) oM;have f:=lhd e;clear b e;go_enter func82,ntmps82;go_wp2;go_ret;exact ⟨by rw [f.out];rfl,0,rfl⟩
def aCA {gw gn gr:Nat} (K:Nat) {w n c:Nat} {A R} (f g:Nat) {W} (b:OrdAt W gw gn gr w n A c R) (a1:W.cell? K=some (.func (.func 82) #[] #[gw,gn,gr])) (N:w<=1000) (M:n<=1000) (r:∀V∈R,V<=1000) (O:f < n) (P:g < n):
 Calls prog 83 #[(f:Int),(g:Int),gr,K] W λk w'=>k=.returned (.int .i64 (lV (aN R) w f g))/\∃e,w'=W.drewN e:=by
 have Z:=b.U;have H:=b;obtain ⟨X,a6,p,L,x,a2⟩:=b.at O;obtain ⟨Y,a7,e,q,j,a3⟩:=b.at P;rw [L] at q;injection q with q;injection q with e1 e2;subst e1 e2;have a4:=r p (zAd x);have a5:=r e (zAd j);have I:=mG x;have J:=mG j;have s:∀l,-1<=aN R l/\aN R l<=1000:=by
  intro l;unfold aN;split
  .next z hz=>
   have:=r z (zAd hz);omega
  omega
 have b1:=s (f+w);have b2:=s (g+w);have v:lV (aN R) w f g=if (p:Int)≠(e:Int) then (p:Int) -e else aN R (f+w) - aN R (g+w):=by unfold lV;rw [I,J]
 obtain ⟨C,y⟩:=eqx (aN R (f+w));obtain ⟨D,B⟩:=eqx (aN R (g+w));rw [y,B] at v;rw [y] at b1;rw [B] at b2;rw [v];subst L;clear b x j I J s v r;by_cases S:p=e
 .subst S;rw [zBw zs];go_enter func83,ntmps83;go_wp2;go_quiet (fail);go_wp2;have T:∀m:Nat,Calls prog 82 #[(f:Int),gw,gn,gr] (W.drewN (nq+m)) λk E=>k=.returned (.int .i64 C)/\∃n,E=W.drewN (nq+n):=λm=>by have b:=aCB (gw:=gw) (gn:=gn) (gr:=gr) (w:=w) (n:=n) (c:=c) (R:=R) (i:=f) (W:=(W.drewN (nq+m))) (H.drewN _) N M O;rw [y] at b;exact b.mono λ_ _ ⟨u,e,j⟩=>⟨u,m+e,by rw [j,zEA,zDp]⟩
  have U:∀m:Nat,Calls prog 82 #[(g:Int),gw,gn,gr] (W.drewN (nq+m)) λk E=>k=.returned (.int .i64 D)/\∃n,E=W.drewN (nq+n):=λm=>by have b:=aCB (gw:=gw) (gn:=gn) (gr:=gr) (w:=w) (n:=n) (c:=c) (R:=R) (i:=g) (W:=(W.drewN (nq+m))) (H.drewN _) N M P;rw [B] at b;exact b.mono λ_ _ ⟨u,e,j⟩=>⟨u,m+e,by rw [j,zEA,zDp]⟩
  have a0:IntKind.i64.wrap (C - D)=C - D:=zu;go_quiet ((first |(with_reducible exact T _)|(with_reducible exact U _)));go_wp2;go_ret;exact ⟨fM (by first | omega | rfl),_,zEA _ _ _⟩
 .have Q:¬((p:Int)=e):=oM;rw [zBx Q];go_enter func83,ntmps83;go_wp2;go_quiet (fail);go_wp2;go_quiet (fail);go_wp2;go_ret;exact ⟨fM oM,_,zEA _ _ _⟩
section
def sufLt (b:List Nat) (c e:Nat):Prop:=∃w,ltW (aN b) w c e
def aC8 {a:Nat->Int} {w w' b c} (e:ltW a w b c) (j:w<=w'):ltW a w' b c:=by
 obtain ⟨g,i,f⟩:=e;exact ⟨g,by omega,f⟩
def sufLt.asymm {e f g} (b:sufLt e f g) (c:sufLt e g f):False:=by
 obtain ⟨w,b⟩:=b;obtain ⟨w',c⟩:=c;exact (aC8 b (Nat.le_max_left w w')).asymm (aC8 c (Nat.le_max_right w w'))
def sufLt.trans {e f g i} (b:sufLt e f g) (c:sufLt e g i):sufLt e f i:=by
 obtain ⟨w,b⟩:=b;obtain ⟨w',c⟩:=c;exact ⟨_,(aC8 b (Nat.le_max_left w w')).trans (aC8 c (Nat.le_max_right w w'))⟩
def sufLt.dk {b e f} (g:e < b.length) (j:f < b.length) (i:e≠f):sufLt b e f∨sufLt b f e:=by
 rcases rM (a:=aN b) b.length e f with c | c | c;exact .inl ⟨_,c⟩;exact absurd c (aHP nL g j i);exact .inr ⟨_,c⟩
structure IsSuf (l rs:List Nat):Prop where
 perm:rs.Perm (List.range l.length)
 B:rs.Pairwise (sufLt l)
def IsSuf.len {b c} (e:IsSuf b c):c.length=b.length:=by simpa using e.perm.length_eq
def IsSuf.lt {b c} (e:IsSuf b c) {p} (f:p∈c):p < b.length:=by simpa using e.perm.mem_iff.1 f
def IsSuf.mem {b e} (f:IsSuf b e) {c} (g:c < b.length):c∈e:=f.perm.mem_iff.2 (by simpa using g)
def IsSuf.nodup {e b} (c:IsSuf e b):b.Nodup:=c.perm.nodup_iff.2 zDl
def IsSuf.unique {b f g} (c:IsSuf b f) (e:IsSuf b g):f=g:=by
 refine List.Perm.eq_of_pairwise (le:=sufLt b) ?_ c.B e.B (c.perm.trans e.perm.symm);intro a k _ _ i j;exact (i.asymm j).elim
def fS (m:Nat) (b:Fin (m+1)):Value:=.int .i64 (b.val:Nat)
def oC (m) (b:Fin (m+1)):(fS m b).oneCell'=true:=rfl
section
variable {α : Type} [Inhabited α] {enc : α -> Value} {w : World} {blk : Nat} {t : TypeId} {d d' : Array α}
def aES (d:Array α) (b) (c:b < d.size):d[b]! =d[b]:=getElem!_pos d b c
def aC1 (e:d'.size=d.size):putCells enc 0 d' (d.map enc)=d'.map enc:=by
 apply zGk
 .simp [putCells,e]
 .intro f g b;have c:f < d'.size:=(by simpa using b);simp [putCells,c,aES]
def aMB (b:Bk w blk t (d.map enc)) (g:d'.size=d.size) (c) (i:Array Obj):Bk (sortWorld enc w blk 0 c d' i) blk t (d'.map enc):=by
 have f:=b.lt;unfold Bk at b⊢;have e:(putRow enc (Sort.ahead w c) blk 0 d').heap[blk]?=some (.cells (d'.map enc) t (0,0)):=by show (w.heap.modify blk _)[blk]?=_;rw [zFZ,zBx rfl,b];simp only [zEq,onCells];rw [aC1 g]
 unfold sortWorld;rw [heap_grow_old _ _ (by show blk < (w.heap.modify blk _).size;simpa using f)];exact e
def kV (l:blk < w.heap.size) (k j) (d':Array α) (c:Array Obj):Keep (λe=>e=blk) w (sortWorld enc w blk k j d' c):=by
 refine ⟨rfl,rfl,rfl,?_,λb g i=>?_⟩
 .show w.heap.size<=((w.heap.modify blk _)++c).size;simp
 .unfold sortWorld;rw [heap_grow_old _ _ (by show b < (w.heap.modify blk _).size;simpa using g)];show (w.heap.modify blk _)[b]?=_;rw [zFZ,zBw (λf=>i f.symm)]
def aL1 (b:Bk w blk t (d.map enc)):Holds enc w blk 0 d:=by
 intro e c;rw [zBi];refine ⟨?_,b.frozen e⟩;rw [b.cell];simp [c,aES]
end
def aAi {α:Type} [Inhabited α] {d d':Array α} (b:PermIn 0 d.size d d'):d'.toList.Perm d.toList:=by
 have f:=b.2.2;have c:d'.extract 0 d.size=d':=by rw [<-b.1];exact Array.extract_size
 have e:d.extract 0 d.size=d:=Array.extract_size;rwa [c,e] at f
def eU {m:Nat} (d:Array (Fin (m+1))) (b:Nat):Nat:=(d[b]!).val
structure RowsOk (m:Nat) (d:Array (Fin (m+1))):Prop where
 size:d.size=m+1
 perm:d.toList.Perm (List.finRange (m+1))
def mU {m} {d:Array (Fin (m+1))} {i} (b:i < d.size):(d.toList.map (·.val))[i]?=some (eU d i):=by
 rw [zAf,zDz,zAq b];simp [eU,aES d i b]
section
variable {m : Nat} {d : Array (Fin (m + 1))}
def RowsOk.lt (c:RowsOk m d) (b):eU d b < m+1:=(d[b]!).isLt
def RowsOk.b6 (e:RowsOk m d):(d.toList.map (·.val)).Perm (List.range (m+1)):=by
 have b:=e.perm.map (·.val);have c:(List.finRange (m+1)).map (·.val)=List.range (m+1):=by
  apply List.ext_getElem
  .simp
  .intro g b f;simp
 rwa [c] at b
def RowsOk.nodup (b:RowsOk m d):(d.toList.map (·.val)).Nodup:=b.b6.nodup_iff.2 zDl
def RowsOk.inj (b:RowsOk m d) {i j} (c:i < m+1) (f:j < m+1) (e:eU d i=eU d j):i=j:=by
 refine (List.getElem?_inj (l:=d.toList.map (·.val)) (by simpa [b.size] using c) b.nodup).1 ?_;rw [mU (by rw [b.size];exact c),mU (by rw [b.size];exact f),e]
def RowsOk.cP (e:RowsOk m d) {p} (l:p < m+1):∃b,b < m+1/\eU d b=p:=by
 have j:p∈d.toList.map (·.val):=e.b6.mem_iff.2 (by simpa using l);obtain ⟨b,f,k⟩:=zDR j;have g:b < m+1:=by simpa [e.size] using f
 refine ⟨b,g,?_⟩;have c:=mU (d:=d) (i:=b) (by rw [e.size];exact g);rw [zAa f,k] at c;injection c with c;exact c.symm
def RowsOk.cell (c:RowsOk m d) {b} (e:b < m+1):(d.map (fS m))[b]?=some (.int .i64 (eU d b:Nat)):=by
 have:b < d.size:=by rw [c.size];exact e
 simp [fS,eU,this,aES]
def RowsOk.b9 {d':Array (Fin (m+1))} (b:RowsOk m d) (c:PermIn 0 d.size d d'):RowsOk m d':=
 ⟨c.1.trans b.size,(aAi c).trans b.perm⟩
def RowsOk.aa (e:RowsOk m d) {l} (r:l.length=m+1) {w} (s:∀b c,b < c->c < m+1->ltW (aN l) w (eU d b) (eU d c)):IsSuf l (d.toList.map (·.val)):=by
 refine ⟨by rw [r];exact e.b6,?_⟩;rw [zAr];intro b c j k q;have p:b < m+1:=by simpa [e.size] using j
 have n:c < m+1:=by simpa [e.size] using k
 have f:=mU (d:=d) (i:=b) (by rw [e.size];exact p);have g:=mU (d:=d) (i:=c) (by rw [e.size];exact n);rw [zAa j] at f;rw [zAa k] at g;injection f with f;injection g with g;rw [f,g];exact ⟨w,s b c q n⟩
end
def aAb (m:Nat):Array (Fin (m+1)):=(List.finRange (m+1)).toArray
def aKz (m):RowsOk m (aAb m):=⟨by simp [aAb],by simp [aAb]⟩
def aKL {c:Nat} {cs:Array Value} {f:Nat->Nat} {v:Nat->Nat} (B:c<=cs.size) (u:∀b,b < c->f b < c) (s:∀b,b < c->cs[f b]?=some (.int .i64 (v b:Nat))) (x:∀j,j < c->∃e,e < c/\f e=j):
 ∃k:List Nat,k.length=c/\(∀b,b < c->k[f b]?=some (v b))/\(∀(b:Nat) p,(k.map sv)[b]?=some p->cs[b]?=some p)/\∀y∈k,∃b,b < c/\y=v b:=by
 let r:Nat->Nat:=λj=>match cs[j]? with
  | some (.int _ q)=>q.toNat
  | _=>0
 have l:∀b,b < c->r (f b)=v b:=by intro b i;show (match cs[f b]? with | some (.int _ q)=>q.toNat | _=>0)=v b;rw [s b i];simp
 refine ⟨(List.range c).map r,by simp,λb i=>?_,λb p n=>?_,λy A=>?_⟩
 .simp [u b i,l b i]
 have i:b < c:=(by have:=(zAc.1 n).1;simpa using this);obtain ⟨e,g,rfl⟩:=x b i;simp [u e g,l e g] at n;rw [s e g,<-n];rfl;obtain ⟨j,z,rfl⟩:=zAy.1 A;obtain ⟨e,g,rfl⟩:=x j (by simpa using z);exact ⟨e,g,l e g⟩
def cfF (m w:Nat) (b:List Nat) (c e:Fin (m+1)):Int:=lV (aN b) w c.val e.val
def aNY {g e:List Nat} {w:Nat} (m:Nat) (b:RankOk (aN g) (aN e) w):SWO (ltOf (cfF m w e)) where
 irrefl x:=by unfold ltOf cfF;rw [decide_eq_false_iff_not,zF b];exact λb=>b.irrefl
 trans x y z h1 h2:=by
  unfold ltOf cfF at*
  rw [decide_eq_true_iff,zF b] at*
  exact h1.trans h2
 ntrans x y z h1 h2:=by
  unfold ltOf cfF at*
  rw [decide_eq_false_iff_not,zF b] at*
  intro f;rcases rM (a:=aN g) (w+w) x.val y.val with c | c | c;exact h1 c;exact h2 (ltW.eq_left c.symm f);exact h2 (c.trans f)
def aKm {e c w m} {d:Array (Fin (m+1))} (f:RankOk (aN e) (aN c) w) (k:d.size=m+1) (j:SortedIn (ltOf (cfF m w c)) 0 (m+1) d) {i} (g:i+1 < m+1):¬ltW (aN e) (w+w) (eU d (i+1)) (eU d i):=by
 have b:=j i (i+1) (zAp _) oM g;unfold ltOf cfF at b;rw [decide_eq_false_iff_not,zF f] at b;exact b
end
def kQ:laidOutB prog=true:=by kernel_rfl
def own:ownKnob prog.godebug=none:=by kernel_rfl
def aML {k:IntKind} {w:World} {d:Addr} {len f:Nat} {b:List Int} (x:len<=f) (y:b.length=f) (o:0 < len->d.block < w.heap.size)
 (i:∀e,e < b.length->w.cell? (d.add e)=some (.int k (b.getD e 0))):Rd w w.heap.size 1 (some d) len ((b.take len).map (Value.int k)):=by
 refine ⟨by simp;omega,λr=>?_⟩;have q:=i 0 oM;obtain ⟨m,t,u⟩:=d;have s:u=none:=by simpa [Addr.add] using World.cell?_spot q
 subst s;refine ⟨m,t,rfl,o r,λl z a=>?_⟩;simp only [zAf,zBs] at a;split at a
 .rename_i v
  have:=i l oM;rw [oN] at this;rw [this];have j:l < b.length:=oM;rw [zAa j] at a;simp only [zEq,zEB] at a;rw [<-a,zAb,zAa j];rfl
 .simp at a
def aE4 (a:List Int) (d:∀n∈a,(Lit.int .u8 n).wf=true):∃b:List UInt8,a.map (Value.int .u8)=b.map bv:=by
 induction a with
 | nil=>exact ⟨[],rfl⟩
 | cons e a j=>
  obtain ⟨b,f⟩:=j λn i=>d n (zEv _ i);have l:=bounds_u8 (d e (zEL ..));refine ⟨UInt8.ofNat e.toNat::b,?_⟩;simp only [zEJ,f];congr 1;unfold bv;congr 1;simp [zEc];omega
def aE8 {i:Type} {r:TypeId×Value->i} {q f} {k:IntKind} {w j len e} {d:DataW i} {p:List MemPlace} (ht:prog.underlying q=some (.slice f)) (u:prog.underlying f=some (.int k)) (t:prog.cellsOf f=1) (s:DataW.Trod r prog w 0 (λ_=>true) true q (.slice j len e) d p):
 ∃b:List Int,Rd w w.heap.size 1 j len (b.map (Value.int k))/\(∀n∈b,(Lit.int k n).wf=true)/\len<=e/\e<=maxLen:=by
 obtain ⟨E,v⟩:=s;rcases open_ints ht u t v with ⟨a,_⟩|⟨C,G,c,b,a,_,m,x,z,F,l,y⟩;simp [Value.cells] at a;obtain ⟨rfl,rfl,rfl⟩:=a;exact ⟨[],Rd.nil _ _ _ _,by simp,zAs _,zAp _⟩;simp [Value.cells] at a;obtain ⟨rfl,rfl,rfl⟩:=a;have B:b.length=e:=(by simpa using z);refine ⟨b.take len,aML m B (λo=>?_) l,λn o=>y n (zFy o),m,x⟩;have:=zFN w (C.add 0) (l 0 oM);simpa [Addr.add] using this
def gY:List (String×DataW Unit):= [("math/bits.deBruijn64tab",Rows.laid_math_bits_deBruijn64tab)]
def aPd:prog.globalNamed "math/bits.deBruijn64tab" =some 0:=by kernel_rfl
def aPl:(prog.globals[0]?).map (·.type)=some 258:=by kernel_rfl
def aAE (b:Os) (a):laidMetH prog gY ((World.doorLaid prog 14 b).forCall (λ_ _=>0) ⟨#[],a, []⟩).memory:=
 laidMetH_of_parts3 (fuel:=8) (laidMet_of_run' 8 kR kR) kR kR
def aIn:(Rows.laid_math_bits_deBruijn64tab:DataW Unit)=Lib.tabData .u8 (Lib.deBruijn64tab.map λn:Nat=>(n:Int)):=rfl
def nS {W} (a:laidMetH prog gY W):TabW W:=by
 rw [MakeChecks.laidMetH_plain _ _ _ kR] at a;unfold gY at a;rw [aIn] at a;have d:=Lib.tabIs_of_head aPd aPl underlying258 underlying5 kR kR a;intro b e;have:=d.cell aPd b (by rw [zBc];exact e);rw [this,zAb,zAf,zAb];cases Lib.deBruijn64tab[b]? <;> rfl
def sW {B A n c xs Av} (b) {k w} (l:w.ownsRow B 3 1 (.slice A n c) n xs) (o:Rd w w.heap.size 1 Av 1 [sv k]) (hB:B<=w.heap.size) (v:n<=1000000):
 Calls prog 88 #[.slice A n c,(n:Int),.slice Av 1 b] w λe d=>∃a,e=.returned a/\d.ownsRow B 3 1 a (n+1) (xs++ [sv k])/\w.grownBy d (Value.slice A n c).ownBlock/\(a.ownBlock=(Value.slice A n c).ownBlock∨a.ownBlock=some w.heap.size):=by
 obtain ⟨t,j,q,r,s⟩:=info_parts gI;have x:=iC (P:=prog) 27 3 1 underlying27 Tryz.sizeOf3 A n c n nL;go_enter func88,ntmps88;go_wp2_with (at_builtin;refine bE _ rfl (.tmp 23) (.tmp 24) _ rfl B 3 t (.int .i64 0) 1 8 underlying27 j q r s rfl dC (.slice A n c) n _ rfl l w.heap.size Av 1 b _ rfl o (by simp [Value.oneCell',sv]) zx oM hB ?_;intro u y m i f);go_ret;exact ⟨u,rfl,m,i,f⟩
def hQ (a:List (Int×Nat)):List UInt8:=a.flatMap cB
def uW (b:Int×Nat) (a:List (Int×Nat)):hQ (b::a)=cB b++hQ a:=by simp [hQ]
def yA (a:Int×Nat) (b:List (Int×Nat)):eV (a::b)=List.replicate a.2 a.1++eV b:=by simp [eV]
def aIg:Nat->List (Int×Nat)->Prop
 | _, []=>True
 | last,x::q=>(fJ x.1/\x.1.toNat≠last/\1<=x.2/\x.2 < 18446744073709551616)/\aIg x.1.toNat q
def aIL {e b} {a:Int×Nat} {d} (l:fJ a.1) (m:a.2 < 18446744073709551616) (f:e.drop b=cB a++d):sH e b=some (a.1.toNat,a.2,b+(cB a).length):=by
 have i:=rP (n:=a.1.toNat) (zj l.2) (bW a.2++d) b;rw [cB,zCo] at f;rw [<-f] at i;have o:e.drop (b+(bW a.1.toNat).length)=bW a.2++d:=by rw [<-zFB,f,zFV]
 have j:=rP m d (b+(bW a.1.toNat).length);rw [<-o] at j;rw [aAa i j,cB,zAi,zDp]
def aKD (i o l q):∀(a:List (Int×Nat)) (d f:Nat) (e:List Int),i.drop d=hQ a++q->aIg f a->e.length+(eV a).length<=o->
 ∃F,rgo i o (a.length+l) d f e=rgo i o l (d+(hQ a).length) F (e++eV a):=by
 intro a
 induction a with
 | nil=>intro d f e _ _ _;exact ⟨f,by simp [hQ,eV]⟩
 | cons b a C=>
  intro d f e m u y;obtain ⟨⟨j,G,H,r⟩,s⟩:=u;rw [uW,zCo] at m;have z:=aIL j r m;rw [yA,zAi,zCn] at y;have t:(b::a).length+l=(a.length+l)+1:=zt;rw [t,aEA _ _ _ _ z,zBw (zk j.1 j.2),zBw oM];have B:((b.1.toNat:Nat):Int)=b.1:=(zj j.1);rw [B];have v:i.drop (d+(cB b).length)=hQ a++q:=(by rw [<-zFB,m,zFV]);obtain ⟨E,x⟩:=C (d+(cB b).length) b.1.toNat (e++List.replicate b.2 b.1) v s (by rw [zAi,zCn];omega);refine ⟨E,?_⟩;rw [x,uW,yA,zAi,zCo,zDp]
def aLU (d:List (Int×Nat)) (q:xG d) (f:∀a∈d,fJ a.1/\a.2 < 18446744073709551616) (i) (t:∀a,d[0]?=some a->a.1.toNat≠i):aIg i d:=by
 induction d generalizing i with
 | nil=>trivial
 | cons a d y=>
  obtain ⟨j,_,l⟩:=q;refine ⟨⟨(f a (zEL ..)).1,t a rfl,j a (zEL ..),(f a (zEL ..)).2⟩,?_⟩;refine y ⟨λe b=>j e (zEv _ b),List.pairwise_of_forall (by intros;trivial),λx m o r s=>l (x+1) m o (by simpa using r) (by simpa using s)⟩ (λe b=>f e (zEv _ b)) _ ?_;intro e b;have:=l 0 a e rfl (by simpa using b);have u:=(f a (zEL ..)).1;have v:=(f e (zEv _ (zAd b))).1;have:=u.1;have:=v.1;omega
def aG8 {d} (e:∀a∈bI d,fJ a.1) (f:d.length < 18446744073709551616):aIg 257 (bI d):=
 aLU _ (wI d) (λa b=>⟨e a b,by have:=lF b;omega⟩) 257 λa b=>by have:=(e a (zAd b)).2;have:=(e a (zAd b)).1;omega
def aCS {a} (b:a.length < 18446744073709551616):(bI a).length < 18446744073709551616:=by have:=jG a;omega
def aDd {l} (m:∀o∈bI l,fJ o.1) (d:l.length < 18446744073709551616) (aA) (q:(l.length:Int)<=aA) (a):
 oI (eO (bI l)++a) aA=if a= [] then (l,0) else ([],4):=by
 have f:=rP (aCS d) (hQ (bI l)++a) 0;have i:eO (bI l)++a=bW (bI l).length++(hQ (bI l)++a):=by simp [eO,hQ]
 rw [i,oI,f];simp only [zBi];have j:(bW (bI l).length++(hQ (bI l)++a)).drop (bW (bI l).length).length=hQ (bI l)++a:=zFV;have b:=kA l;obtain ⟨r,e⟩:=aKD _ aA.toNat 0 a (bI l) _ 257 [] j (aG8 m d) (by rw [b];simp;omega);rw [zBq] at e;rw [e,b,zDH,rgo];by_cases ht:a= []
 .subst ht;rw [zBx zs,zBx rfl]
 .have:0 < a.length:=List.length_pos_iff.2 ht;rw [zBw zt,zBw ht]
section
def TabW.cy {g w b} (e:TabW w) (k:VisK (λd=>d=g) w b) (j:0 < g) (i:0 < w.heap.size):TabW b:=
 λa f=>(k.2.cell (p:=⟨0,a,none⟩) i (by show ¬(0=g);omega)).trans (e a f)
def aE1 {a:List Bool} {b:Bool} {p:Nat} (d:a[p]?=some b):(a.take p).count b < a.count b:=by
 have j:=(zAc.1 d).1;have e:a=a.take (p+1)++a.drop (p+1):=(zAu _ _).symm;have f:a.count b=(a.take (p+1)).count b+(a.drop (p+1)).count b:=by rw [<-zCc,zAu]
 have i:(a.take (p+1)).count b=(a.take p).count b+1:=by rw [zAv,d,zCc];simp
 omega
def aPb {l r:List Bool} {a:Bool} {p d:Nat} (e:(l++r)[p]?=some a) (b:((l++r).take p).count a=d) (f:d < l.count a):l[p]?=some a/\(l.take p).count a=d:=by
 by_cases c:p < l.length;rw [zAn c] at e;rw [zDi (zCm c)] at b;exact ⟨e,b⟩;rw [wV _ _ _ _ oM] at b;omega
def aPa {l r:List Bool} {a:Bool} {p d:Nat} (b:(l++r)[p]?=some a) (e:((l++r).take p).count a=d) (f:¬d < l.count a):l.length<=p/\r[p - l.length]?=some a/\(r.take (p - l.length)).count a=d - l.count a:=by
 by_cases c:p < l.length;rw [zAn c] at b;rw [zDi (zCm c)] at e;have:=aE1 b;omega;rw [zAo oM] at b;rw [wV _ _ _ _ oM] at e;exact ⟨by omega,b,by omega⟩
def aDA {e} {u:Option Tr} {p L a w} (S:TreeO w e u) (ab:(cH u)[p]?=some a) (am:((cH u).take p).count a=L) (aD:TabW w) (bn:0 < e):
 Calls prog 168 #[e,(L:Int),.bool a] w λs bD=>s=.returned (.int .i64 p)/\VisK (λa=>a=e) w bD:=by
 have bk:=S.le;obtain ⟨b7,a1,bl⟩:=S.a;have bw:=(zAc.1 ab).1;have aK:=aE1 ab;rw [am] at aK;have aJ:=tL (cH u);have bC:0 < w.heap.size:=aD.pos;have ar:=VisK.E a1 0;have aZ:=S.b ar.1;have bP:=a1.lt;have ax:w.cell? ⟨e,3,none⟩=some b7[3]:=by rw [a1.cell 3];simp [bl]
 have aB:=a1.frozen 3;obtain ⟨a0,aj⟩:=eqx ((cH u).length);obtain ⟨on,aV⟩:=eqx ((cH u).count true);rw [aj,aV] at aJ;rw [aj] at bk;have aP:L < (if a then on else a0 - on):=by cases a;simp;omega;simp;omega
 have bj:a0<=100000:=oM;have bu:on<=a0:=oM;have bU:L<=1100:=by rw [<-am];exact zAk zBv (by rw [zAj];omega)
 have bv:p<=1100:=oM;obtain ⟨f,aX⟩:=eqx ((if a then on else a0 - on));rw [aX] at aP;have bF:=aP;clear a1 bw aK aJ;go_enter func168,ntmps168;go_wp2_with fail;clear ax aB;refine (jL (gt:=e) (o:=u) aZ).mono ?_;rintro s c4 ⟨rfl,aE⟩;rw [aj];have F:=ar.below aE;have b0:=S.b F.1;have aw:=F;clear F ar aZ aE;go_wp2_with fail;refine (aHi (gt:=e) (o:=u) b0).mono ?_;rintro s c5 ⟨rfl,aF⟩;rw [aV];have O:=aw.below aF;have bA:=S.b O.1;clear aw b0 aF;go_wp2_with fail;refine (pY (n:=a0) (o:=on) a _ bj bu).mono ?_;rintro s C ⟨rfl,aG⟩;rw [aX];have au:=O.below aG;have bB:=S.b au.1;have aT:¬f<=L:=oM;have bt:=zBy aT;clear aG O bA;obtain ⟨bN,A,bI,n,ag,c2,c3,J,⟨rfl,rfl⟩|⟨b1,rfl,al,rfl,a7,aC⟩⟩:=bB
 .have:=ab;simp [cH] at this
 obtain ⟨I,bJ,rfl,aL⟩:=J.ex (zj (al.at.lt J.len));have bH:=J.c2;have bS:=J.a.lt;have bQ:=aL.lt;have b3:=(show AtSub C ag b1 from ⟨al,a7.le,aC⟩);clear al aL a7 aC;go_wp2_with fail;clear aT bt;go_loopw [1,7,8] (λbE av E wr=>∃(z:LT) (m B v:Nat),bE=.int .i64 m/\av=.int .i64 (z.num:Nat)/\E=.int .i64 B/\AtSub C ag z/\z.bits[v]?=some a/\(z.bits.take v).count a=m/\B+v=p/\VisK (λa=>a=e) C wr) (λ_ av _ _=>lI C I av)
 case atStart=>exact ⟨b1,L,0,p,rfl,rfl,rfl,b3,ab,am,zBi _,VisK.refl _ _⟩
 case round=>
  obtain ⟨z,m,B,v,rfl,rfl,rfl,y,ac,a2,aq,V⟩:=hrel;have bV:m<=1100:=by rw [<-a2];refine zAk zBv ?_;rw [zAj];have a6:=y.len;have s:z.bits.length=z.len:=rfl;omega
  obtain ⟨P,t⟩:=J.b V.1;have bG:=t.c1;have ax:=t.c3;have aB:=t.a.frozen 3;have bT:=t.a.lt;obtain ⟨bK,a9⟩:=fE t.row;have bR:=a9.lt;have U:=y.sub.b V.1;have bZ:e≠I:=Bk.ne t.a a9 dC;have aO:(z.num:Int) < n:=zj (U.at.lt t.len)
  have ao:=kS J y.sub;generalize aW:z.num=q at*
  cases z with
  | lf a5 g R=>
   change a5=q at aW;subst a5;obtain ⟨ae,aR⟩:=eqx R.length;obtain ⟨H,a4⟩:=eqx (R.count true);obtain ⟨b8,b9,ba,ay,az,bb,bc,bd⟩:=t.at (show At8 ag q [_,_,_,_,_,_,_,_] from U.1);rw [aR] at ay;rw [a4] at az;change (q:Int) < (n:Int) at aO;have bq:R.length<=128:=y.le;have bx:R[v]?=some a:=ac;have bp:(R.take v).count a=m:=a2;have bo:e≠wr.heap.size:=oM;have F:VisK (λa=>a=e) wr ((wr.setCell ⟨e,3,none⟩ (.int .i64 (wrap64 (P+1)))).alloc (.cells #[(-1:Int),(-1:Int),o0,(ae:Int),(H:Int),o0,o0,g] 226)):=(VisK.E t.a _).alloc _;have ak:=U.2;have aI:=(ak.m (p:=⟨e,3,none⟩) (Bk.ne ak t.a dC) (.int .i64 (wrap64 (P+1)))).alloc (.cells #[(-1:Int),(-1:Int),o0,(ae:Int),(H:Int),o0,o0,g] 226);have O:=(V.trans F);have b6:=bq;clear y ac a2 V t a9 U ao F ak aR a4;go_wp2_with fail;refine (pY (n:=0) (o:=0) a _ oM nL).mono ?_;rintro s M ⟨rfl,K⟩;have ah:(if a=true then 0 else 0 - 0:Nat)=0:=(by cases a <;> rfl);rw [ah];have Z:=(O.below K);have b2:=(aI.below K aI.lt);have b4:=(aD.cy (au.trans Z) bn bC);have x:=(jJ wr e (.int .i64 (wrap64 (P+1))) #[(-1:Int),(-1:Int),o0,(ae:Int),(H:Int),o0,o0,g]).below K (jJ wr e (.int .i64 (wrap64 (P+1))) #[(-1:Int),(-1:Int),o0,(ae:Int),(H:Int),o0,o0,g]).lt;have be:M.cell? ⟨wr.heap.size,7,none⟩=some (.pointer (some g)):=(by rw [x.cell 7];rfl);have bz:wr.heap.size < M.heap.size:=x.lt;clear x K ah;go_wp2_with fail;refine (yW (gb:=g) (l:=R) (b:=a) (p:=v) (j:=m) b2 b6 bx bp b4).mono ?_;rintro s c6 ⟨rfl,aH⟩;have b5:=(au.trans (Z.below aH));have aY:B+v=p:=aq;have c1:wrap64 (B+v)=(p:Int):=(by unfold wrap64;omega);clear aH;go_wp2_with fail;go_ret;exact ⟨fM (aEc aY.symm (zAk (zCv aY) bv)),b5⟩
  | nd a5 d f=>
   change a5=q at aW;subst a5;obtain ⟨i,N⟩:=eqx d.len;obtain ⟨G,a3⟩:=eqx d.on;obtain ⟨af,aU⟩:=eqx (d.len+f.len);obtain ⟨H,a4⟩:=eqx (d.on+f.on);obtain ⟨aa,aM⟩:=eqx (max d.ht f.ht+1);obtain ⟨X,an⟩:=eqx d.num;obtain ⟨Y,ap⟩:=eqx f.num;have aN:At8 ag q (ndL X Y aa af H i G):=(by rw [<-N,<-a3,<-aU,<-a4,<-aM,<-an,<-ap];exact U.1);obtain ⟨b8,b9,ba,ay,az,bb,bc,bd⟩:=t.at aN;change (q:Int) < (n:Int) at aO;have bW:=y.len;have bY:=LT.len_nd q d f;have br:=kS J y.l.sub;have bs:=kS J y.r.sub;have aS:(LT.nd q d f).ht=max d.ht f.ht+1:=rfl;have aQ:G<=i:=(by rw [<-a3,<-N];exact d.on_le);have bX:i<=1100:=oM;have a8:(LT.nd q d f).bits=d.bits++f.bits:=rfl;have bm:(if a then G else i - G)=d.bits.count a:=(by rw [<-a3,<-N];exact tE d.bits a);have aQ:G<=i:=(by rw [<-a3,<-N];exact d.on_le);have c0:B<=1100:=oM;have bo:e≠wr.heap.size:=oM;have F:VisK (λa=>a=e) wr ((wr.setCell ⟨e,3,none⟩ (.int .i64 (wrap64 (P+1)))).alloc (.cells #[(X:Int),(Y:Int),(aa:Int),(af:Int),(H:Int),(i:Int),(G:Int),.pointer none] 226)):=(VisK.E t.a _).alloc _;have O:=(V.trans F);clear a3 aU a4 aM aN U a9 t V F;go_wp2_with fail;refine (pY (n:=i) (o:=G) a _ oM aQ).mono ?_;rintro s M ⟨rfl,K⟩;rw [bm];obtain ⟨E,ad⟩:=eqx (d.bits.count a);rw [ad];have Z:=(O.below K);have x:=(jJ wr e (.int .i64 (wrap64 (P+1))) #[(X:Int),(Y:Int),(aa:Int),(af:Int),(H:Int),(i:Int),(G:Int),.pointer none]).below K (jJ wr e (.int .i64 (wrap64 (P+1))) #[(X:Int),(Y:Int),(aa:Int),(af:Int),(H:Int),(i:Int),(G:Int),.pointer none]).lt;have ah:M.cell? ⟨wr.heap.size,0,none⟩=some (.int .i64 X):=(by rw [x.cell 0];rfl);have bL:M.cell? ⟨wr.heap.size,1,none⟩=some (.int .i64 Y):=(by rw [x.cell 1];rfl);have bM:M.cell? ⟨wr.heap.size,5,none⟩=some (.int .i64 i):=(by rw [x.cell 5];rfl);have be:M.cell? ⟨wr.heap.size,7,none⟩=some (.pointer none):=(by rw [x.cell 7];rfl);have bz:wr.heap.size < M.heap.size:=x.lt;clear x K;by_cases c:m < E
   .have bf:=zy ((m:Int) < E);have bg:=zBz c;have Q:=(aPb (l:=d.bits) (r:=f.bits) (a8 ▸ ac) (a8 ▸ a2) (by rw [ad];exact c));go_wp2_with fail;go_roundw
    case rel=>exact ⟨d,m,B,v,rfl,by rw [an],rfl,y.l,Q.1,Q.2,aq,Z⟩
    case measure=>have a6:=ao;have ai:=br;have a7:=aS;rw [an] at ai;show lI C I (.int .i64 X) < lI C I (.int .i64 (q:Nat));have bh:lI C I (.int .i64 (q:Nat))=(LT.nd q d f).ht:=a6;omega
   .have bf:=zn ((m:Int) < E);have bg:=zBy c;have Q:=(aPa (l:=d.bits) (r:=f.bits) (a8 ▸ ac) (a8 ▸ a2) (by rw [ad];exact c));go_wp2_with fail;go_roundw
    case rel=>exact ⟨f,m - E,B+i,v - i,congrArg (Value.int .i64) (show (m:Int) -(E:Int)=(m - E:Nat) by omega),by rw [ap],congrArg (Value.int .i64) (show (B:Int)+(i:Int)=(B+i:Nat) from rfl),y.r,by
     have s:d.bits.length=i:=N;rw [<-s];exact Q.2.1,by
     have s:d.bits.length=i:=N;rw [<-s,<-ad];exact Q.2.2,by
     have s:d.bits.length=i:=N;have bi:=Q.1;rw [s] at bi;have bO:=aq;omega,Z⟩
    case measure=>have a6:=ao;have ai:=bs;have a7:=aS;rw [ap] at ai;show lI C I (.int .i64 Y) < lI C I (.int .i64 (q:Nat));have bh:lI C I (.int .i64 (q:Nat))=(LT.nd q d f).ht:=a6;omega
def aAY {gt bs p j b w} (a:TreeAt w gt bs) (l:bs[p]?=some b) (i:(bs.take p).count b=j) (e:TabW w) (f:0 < gt):
 Calls prog 168 #[gt,(j:Int),.bool b] w λd m=>d=.returned (.int .i64 p)/\VisK (λb=>b=gt) w m:=by
 obtain ⟨o,rfl,a⟩:=a;exact aDA a l i e f
def aHz (w):Calls prog 172 #[(),o0,o0] w λa b=>a=.returned (.tuple #[])/\b=w:=by
 go_enter func172,ntmps172;go_wp2_with fail;go_loopw [6] (λd wr=>d=.int .i64 1/\wr=w) (λ_ _=>0)
 case atStart=>exact ⟨rfl,rfl⟩
 case round=>obtain ⟨rfl,rfl⟩:=hrel;go_wp2_with fail;go_end0;exact ⟨rfl,rfl⟩
def aHw (b w):Calls prog 119 #[(),o0,o0,(b:Int)] w λa d=>a=.returned (.tuple #[])/\d=w:=by
 go_enter func119,ntmps119;go_wp2_with fail;go_loopw [1,2] (λe f wr=>e=.int .i64 0/\f=.int .i64 0/\wr=w) (λ_ _ _=>0)
 case atStart=>exact ⟨rfl,rfl,rfl⟩
 case round=>obtain ⟨rfl,rfl,rfl⟩:=hrel;go_wp2_with fail;refine (aHz wr).mono ?_;rintro a w1 ⟨rfl,rfl⟩;go_wp2_with fail;exact bodyPost_ret (results_none rfl _ _ _) rfl ⟨rfl,rfl⟩
def aFu (w):Calls prog 57 #[()] w λa b=>a=.returned (.tuple #[])/\b=w:=by
 have d:Calls prog 120 #[.int .u64 0] w λa b=>a=.returned (.int .i64 (Lib.bitLen (0:Int).toNat))/\b=w:=calls_of_every_depth λD=>AnyS.bits_LenIn shLen D 0 w oM oM;go_enter func57,ntmps57;go_wp2_with fail;refine d.mono ?_;rintro a w1 ⟨rfl,rfl⟩;go_wp2_with fail;refine (aHw _ w1).mono ?_;rintro a e ⟨rfl,rfl⟩;go_wp2_with fail;go_end0;exact ⟨rfl,rfl⟩
def aFt {q:Nat} {v:Value} {n:Nat} {a:List Int} {w:World} (s:w.ownsRow q 3 1 v n (a.map (Value.int .i64))) (B:a.length=n) (J:n<=1000):
 ∃A c,v=.slice A n c/\Calls prog 57 #[.slice A n c] w λb e=>b=.returned (.tuple #[])/\e.ownsRow q 3 1 (.slice A n c) n ((a.mergeSort λm o=>decide (m<=o)).map (Value.int .i64))/\Keep (λf=>(Value.slice A n c).ownBlock=some f) w e:=by
 subst B;rcases s.2 with ⟨i,t⟩|⟨g,r,I,i,j,l,C,z,F,G⟩;subst i;refine ⟨none,0,by rw [t],?_⟩;have H:a= []:=zBk t;subst H;refine (aFu w).mono ?_;rintro b e ⟨rfl,rfl⟩;exact ⟨rfl,by simpa using s,ke _ _⟩
 .subst i;refine ⟨_,r,rfl,?_⟩;have y:g < w.heap.size:=(zAh.1 l).1;have x:Sort.Holds (Value.int .i64) w g 0 a.toArray:=holds_of_blockI l (by rw [<-G];simp);refine (Any.slices_Sort_int shSrt g 0 r a w x y oM).mono ?_;rintro b e ⟨rfl,k,u,rfl⟩;have d:=grownBy_sortedI (w:=w) (g:=g) (n:=k) (os:=u) (a.mergeSort λm o=>decide (m<=o)).toArray;refine ⟨rfl,ownsRow_sortedI zs j l C z F,⟨d.os,d.tape,d.output,d.size,λf j E=>d.block f j (λb=>E b.symm)⟩⟩
def xX:(prog.info? 3).map (λa=>(a.zero,a.size,a.bytes))=some (some (.int .i64 0),1,8):=by kernel_rfl
def Rd.o {f w d e q n A r} (l:Rd w e q A n r) (k:Keep f w d) (hB:e<=w.heap.size) (t:0 < n->∀i,A=some i->¬f i.block):Rd d d.heap.size q A n r:=
 ⟨l.1,λm=>by
  obtain ⟨a,b,j,x,s⟩:=l.2 m;exact ⟨a,b,j,by have:=k.size;omega,λo v u=>(k.cell (p:=⟨a,b+o,none⟩) (by simp only;omega) (by exact t m ⟨a,b,none⟩ j)).trans (s o v u)⟩⟩
section
variable {w W : World}
def eP {a j l m o b d e f} (i:Bk W a 29 #[j,l,m,o]):
 Bk ((((W.setCell a b).setCell ⟨a,1,none⟩ d).setCell ⟨a,2,none⟩ e).setCell ⟨a,3,none⟩ f) a 29 #[b,d,e,f]:=by
 have:=(((i.set 0 b).set 1 d).set 2 e).set 3 f;simpa using this
def lL {a v0 v1 v2 v3} (b:w.heap.size<=a):Below w.heap.size w W->Below w.heap.size w ((((W.setCell a v0).setCell ⟨a,1,none⟩ v1).setCell ⟨a,2,none⟩ v2).setCell ⟨a,3,none⟩ v3):=
 λd=>(((d.setCell (p:=a) b v0).setCell (p:=⟨a,1,none⟩) b v1).setCell (p:=⟨a,2,none⟩) b v2).setCell (p:=⟨a,3,none⟩) b v3
def nB {d a v0 v1 v2 v3} (b:w.heap.size<=a):Keep d w W->Keep d w ((((W.setCell a v0).setCell ⟨a,1,none⟩ v1).setCell ⟨a,2,none⟩ v2).setCell ⟨a,3,none⟩ v3):=
 λe=>(((e.setCell (p:=a) (.inr b) v0).setCell (p:=⟨a,1,none⟩) (.inr b) v1).setCell (p:=⟨a,2,none⟩) (.inr b) v2).setCell (p:=⟨a,3,none⟩) (.inr b) v3
def iY {s v0 v1 v2 v3}:Keep (λa=>a=s) W ((((W.setCell s v0).setCell ⟨s,1,none⟩ v1).setCell ⟨s,2,none⟩ v2).setCell ⟨s,3,none⟩ v3):=
 ((((ke (λa=>a=s) W).setCell (p:=s) (.inl rfl) v0).setCell (p:=⟨s,1,none⟩) (.inl rfl) v1).setCell (p:=⟨s,2,none⟩) (.inl rfl) v2).setCell (p:=⟨s,3,none⟩) (.inl rfl) v3
end
def aCk (a b f n i):Stb (jD a b f n i):=λ_ _ _ ⟨A,c,d,e⟩ k=>⟨A,c,d,e.below k⟩
end
def rK {a b:Nat} (d:a≠b):((a:Int)==b)=false:=by rw [zCb];omega
def xW {a b:List Nat} {k n:Nat} (e:a.length=n) (f:b.length=n) (d:a.take k=b.take k) (i:n<=k):a=b:=by
 rw [zAg oM,zAg oM] at d;exact d
section
def RdN (w:World) (f i:Nat) (A:Option Addr) (n:Nat) (j:List Value):Prop:=Rd w w.heap.size i A n j/\(0 < n->∀a,A=some a->f<=a.block/\∃d b e,w.heap[a.block]?=some (.cells d b e)/\(b=5∨b=3))
def RdN.o {j w r i q n A s} (b:RdN w i q A n s) (k:Keep j w r) (o:∀l,j l->l < i):RdN r i q A n s:=
 ⟨Rd.o b.1 k nL λf a e d=>by have:=(b.2 f a e).1;have:=o _ d;omega,λf a e=>by
  obtain ⟨x,t,u,v,m,y⟩:=b.2 f a e;exact ⟨x,t,u,v,(k.block _ (zAh.1 m).1 λd=>by have:=o _ d;omega).trans m,y⟩⟩
def RdN.below {w f d e n A i} (a:RdN w d e A n i) (k:Below w.heap.size w f):RdN f d e A n i:=⟨(a.1.below k).mono k.size,λt j s=>by
 obtain ⟨q,l,m,o,b,r⟩:=a.2 t j s;exact ⟨q,l,m,o,(k.block _ (zAh.1 b).1).trans b,r⟩⟩
def RdN.mono {w f i j n A l} (a:RdN w f j A n l) (m:i<=f):RdN w i j A n l:=⟨a.1,λe b d=>⟨zAk m (a.2 e b d).1,(a.2 e b d).2⟩⟩
def RdN.nil (w b d A):RdN w b d A 0 []:=⟨Rd.nil _ _ _ _,λa=>absurd a oM⟩
structure RefF (w W:World) (gx nd cd:Nat) (AD:Option Addr) (T D:List UInt8) (aA kind p k:Int):Prop where
 low:Below w.heap.size w W
 step:Bk W w.heap.size 32 #[(kind:Int),(p:Int),(k:Int),.slice AD nd cd]
 wQ:Bk W (w.heap.size+1) 29 #[o0,o0,(),()]
 mod:Bk W gx 35 #[.string ⟨T.toArray⟩,(aA:Int)]
 rD:Rd W w.heap.size 1 AD nd (D.map bv)
 ae:gx < w.heap.size
section
variable {w W W' : World} {gx nd cd : Nat} {AD : Option Addr} {T D : List UInt8} {aA kind p k : Int}
def RefF.grow (a:RefF w W gx nd cd AD T D aA kind p k) (b:Grow W W'):RefF w W' gx nd cd AD T D aA kind p k:=
 ⟨a.low.trans (zDV b a.low.size),a.step.below b a.step.lt,a.wQ.below b a.wQ.lt,a.mod.below b a.mod.lt,a.rD.below (zDV b a.low.size),a.ae⟩
end
def tJ (T D aA kind p k):(doM T aA kind p k D).2.places.length<=T.length+1:=by
 unfold doM;by_cases a:kind=1
 .rw [zBx a];split
  .simp
  .split <;> simp
 rw [zBw a];by_cases b:kind=2
 .rw [zBx b];split <;> simp
 rw [zBw b];by_cases f:kind=5
 .rw [zBx f];split <;> simp
 rw [zBw f];by_cases d:kind=3
 .rw [zBx d];split <;> simp
 rw [zBw d];by_cases e:kind=4
 .rw [zBx e];simp
 rw [zBw e];by_cases i:kind=6
 .rw [zBx i];simp
 rw [zBw i];by_cases j:kind=7;rw [zBx j];have:=wR T D (T.length+1 - D.length);simp only [dY];omega;rw [zBw j];by_cases l:kind=8
 .rw [zBx l];simp
 rw [zBw l];simp
end
def bF (a lv:Nat):Nat:=a / 2 ^(9 - lv)
def iF (a lv:Nat):Bool:=decide (a / 2 ^(8 - lv)% 2=1)
def fW {s:Nat} (a) (f:s < 257):
 Calls prog 111 #[(s:Int)] a λb w'=>b=.returned (.bool true)/\Below a.heap.size a w':=by
 have c:(0:Int)<=s:=oM;have e:(s:Int) < 257:=oM;go_enter func111,ntmps111;go_wp2;go_ret;exact ⟨rfl,kg _ _⟩
def aE3 (b a:Nat):(b:Int)/ 2 ^ a=(b / 2 ^ a:Nat):=by push_cast;rfl
def aPp {a:Nat} (c:a < 257):bits .and .i64 (a:Int) 1=((a % 2:Nat):Int):=by
 have b:=(bits_nat .i64 10 dC (λn e b=>by rw [wI0];omega) a 1 oM oM).1;rw [show ((1:Nat):Int)=1 from rfl] at b;rw [b,zEN]
def mI {s:Nat} (lv:Nat) (a) (e:s < 257) (i:lv<=9):
 Calls prog 166 #[(s:Int),(lv:Int)] a λb w'=>b=.returned (.int .i64 (bF s lv:Nat))/\Below a.heap.size a w':=by
 have f:¬((lv:Int) < 0):=oM;have g:¬((lv:Int) > 9):=oM;go_enter func166,ntmps166;go_wp2_with fail;refine (fW _ e).mono ?_;rintro b w1 ⟨rfl,c⟩;go_wp2_with fail;go_ret;exact ⟨fM (aE3 _ _),c⟩
def oQ {s lv:Nat} (a) (f:s < 257) (r:lv < 9):
 Calls prog 169 #[(s:Int),(lv:Int)] a λc w'=>c=.returned (.bool (iF s lv))/\Below a.heap.size a w':=by
 have p:¬((lv:Int) < 0):=oM;have q:¬((lv:Int)>=9):=oM;go_enter func169,ntmps169;go_wp2_with fail;refine (fW _ f).mono ?_;rintro c w1 ⟨rfl,k⟩;go_wp2_with fail;go_ret;refine ⟨bH ?_,k⟩;have o:s / 2 ^(8 - lv) < 257:=zDF (zDZ _ _) f;rw [aE3,aPp o];unfold iF;generalize s / 2 ^(8 - lv)% 2=i;by_cases e:i=1;subst e;rfl
 .have j:((i:Int)==1)=false:=zt;rw [j];simp [e]
@[irreducible] def tcells (b:List Nat):Array Value:=Array.ofFn (n:=258) λg=>.int .i64 (((if g.val < 257 then b.count g.val else b.length):Nat):Int)
def eH (b) {a} (c:a < 257):(tcells b)[a]?=some (.int .i64 (b.count a:Nat)):=by
 unfold tcells;rw [zGe,dif_pos oM,zBx c]
def jE (a):(tcells a)[257]?=some (.int .i64 (a.length:Nat)):=by
 unfold tcells;rw [zGe,dif_pos oM];rfl
def fI (a):(tcells a).size=258:=by unfold tcells;simp
def sZ (c b) (j:c.size=258) (g:∀e,e < 257->c[e]?=some (.int .i64 (b.count e:Nat))) (i:c[257]?=some (.int .i64 (b.length:Nat))):c=tcells b:=by
 apply zEO;intro f;rcases zBe f 257 with a | a
 .rw [g f a,eH b a]
 .rcases zFL a with a | a
  .rw [<-a,i,jE]
  .rw [zDn oM,zDn (by rw [fI];omega)]
def aF6 (b) {a} (g:a < 257):((tcells b).setIfInBounds a (.int .i64 (((b.count a+1:Nat)):Int))).setIfInBounds 257 (.int .i64 (b.length+1:Nat))=tcells (b++ [a]):=by
 apply sZ
 .simp [fI]
 .intro e f;rw [zCe oM];by_cases c:a=e
  .subst c;rw [zDt (by rw [fI];omega)];simp
  rw [zCe c,eH b f];have: [a].count e=0:=(by simp [c]);rw [zCc,this];rfl
 .rw [zDt (by simp [fI])];simp
def yE {gt:Nat} {L} (a:Nat) {w} (b:Bk w gt 197 (tcells L)) (f:a < 257):
 Calls prog 184 #[gt,(a:Int)] w λc w'=>c=.returned (.int .i64 (L.count a:Nat))/\Below w.heap.size w w':=by
 go_enter func184,ntmps184;go_wp2_with fail;refine (fW _ f).mono ?_;rintro c w1 ⟨rfl,e⟩;have g:w1.cell? ⟨gt,a,none⟩=some (.int .i64 (L.count a:Nat)):=((b.below e b.lt).cell a).trans (eH L f);have i:¬((a:Int) < 0):=oM;have j:((a:Int) < 257):=oM;clear b;go_wp2_with fail;go_ret;exact ⟨rfl,e⟩
def yB (c:List Nat) (b:Nat):c.countP (λa=>decide (a < b+1))=c.countP (λa=>decide (a < b))+c.count b:=by
 induction c with
 | nil=>rfl
 | cons a l i=>
  rw [zBn,zBn,zDg,i];by_cases g:a < b;have e:a < b+1:=oM;have f:a≠b:=oM;simp [g,e,f];omega
  .by_cases e:a=b;subst e;simp;omega
   .have f:¬a < b+1:=oM;simp [g,e,f]
def lR {gt:Nat} {L} {s:Nat} {w} (k:Bk w gt 197 (tcells L)) (A:s < 257) (u:L.length<=1000):
 Calls prog 170 #[gt,(s:Int)] w λj w'=>j=.returned (.int .i64 (L.countP (λb=>decide (b < s)):Nat))/\Below w.heap.size w w':=by
 have B:max (s:Int) 0=(s:Int):=oM;have C:min (s:Int) 257=(s:Int):=oM;go_enter func170,ntmps170;go_wp2_with fail;go_loopw [5,10] (λx i wr=>∃a:Nat,a<=s/\i=.int .i64 a/\x=.int .i64 (L.countP (λb=>decide (b < a)):Nat)/\Below w.heap.size w wr) (λ_ i _=>s -(intOf i).toNat)
 case atStart=>exact ⟨0,by omega,rfl,by simp,kg _ _⟩
 case round=>
  obtain ⟨a,y,rfl,rfl,c⟩:=hrel;have v:=c.size;by_cases z:a < s
  .go_wp2_with fail;refine (yE a (k.below c k.lt) oM).mono ?_;rintro j w1 ⟨rfl,q⟩;have r:=c.trans (q.mono v);have g:=yB L a;have o:L.countP (λb=>decide (b < a+1))<=1000:=zAk zBh u;obtain ⟨p,e⟩:∃p,L.countP (λb=>decide (b < a))=p:=⟨_,rfl⟩;obtain ⟨D,f⟩:=eqx (L.count a);rw [g] at o;rw [e,f] at g o;rw [f]
   try rw [e]
   clear e f;go_wp2_with fail;go_roundw
   case rel=>exact ⟨a+1,by omega,by go_num,by rw [g];exact cS oM,r⟩
   case measure=>exact zr
  .have t:a=s:=oM;subst t;go_wp2_with fail;go_ret;exact ⟨rfl,c⟩
def vE {a:Nat} {c} {b:Nat} {y} (g:Bk y a 197 (tcells c)) (q:b < 257) (G:c.length<=1000):
 Calls prog 152 #[a,(b:Int),(1:Int)] y λB w'=>B=.returned (.int .i64 0)/\Bk w' a 197 (tcells (c++ [b]))/\Keep (λi=>i=a) y w':=by
 have u:=g;clear g;have Y:¬((b:Int) < 0):=oM;have Z:((b:Int) < 257):=oM;obtain ⟨f,o⟩:=eqx (c.count b);obtain ⟨n,s⟩:=eqx c.length;have a1:f<=1000:=by rw [<-o];exact zAk zBv G
 rw [s] at G;have C:=aF6 c q;rw [o,s] at C;go_enter func152,ntmps152;go_wp2_with fail;refine (fW _ q).mono ?_;rintro B w1 ⟨rfl,E⟩;have x:=u.below E u.lt;have K:w1.cell? ⟨a,b,none⟩=some (.int .i64 f):=by rw [<-o];exact (x.cell b).trans (eH c q)
 have L:w1.cell? ⟨a,257,none⟩=some (.int .i64 n):=by rw [<-s];exact (x.cell 257).trans (jE c)
 have a2:¬((1:Int) < -f):=oM;have a3:¬((1:Int) > 2147483648 -n):=oM;clear u;go_wp2_with fail;refine wp_region_any kR<|bM (pJ:=(λ_ t=>Bk t a 197 ((tcells c).setIfInBounds b (.int .i64 (f+1:Nat))))) [33,34,35,36,37,38,39,40,41,42,43] (λi=>i=a) 11 [5,11] [is a,is (b:Int),is a,is a,is (.pointer (some ⟨a,b,none⟩)),is (f:Int),is (.int .i64 1),is (.int .i64 (f+1:Nat)),is a,is a,is (.pointer (some ⟨a,b,none⟩)),cO] _ rfl kR kR (x) (λt a5 g _ H=>kf g H g.lt) (λ_ _ _ g I=>kf g I g.lt) tA1 ?_ ?_
 .refine aL<|pH3 0 (.pointer (some a))<|pH3 1 (.int .i64 b)<|pV3 0 33<|pV3 2 35<|pW3 3 36 1 34<|sC3 (λ_ z _ w _ _ _ e _ _ _ j=>?_) ?_
  .have k:=w rfl;have P:_=_:=e 4 37 kR rfl;have N:z.cell? ⟨a,b,none⟩=some (.int .i64 f):=(by rw [<-o];exact (k.cell b).trans (eH c q));go_simp;exact kq j rfl
  refine pH3 2 (.int .i64 1)<|sC3 (λ_ _ _ _ _ _ _ e _ _ _ j=>?_) ?_
  .have Q:_=_:=e 5 38 kR rfl;have S:_=_:=e 6 39 kR rfl;go_simp;exact j _ _ (aE bR) (cS zu)
  refine pV3 0 33<|pV3 8 41<|pW3 9 42 1 34<|sC3 (λ_ z _ w _ _ _ e _ _ _ j=>?_) ?_
  .have k:=w rfl;have U:_=_:=e 10 43 kR rfl;have T:_=_:=e 7 40 kR rfl;have O:z.cell? ⟨a,b,none⟩=some (.int .i64 f):=(by rw [<-o];exact (k.cell b).trans (eH c q));have X:=k.frozen b;go_simp;exact j (.bool true) _ (aW (ka (F:=λi=>i=a) (ke _ _) (p:=⟨a,b,none⟩) (.inl rfl) _)) (k.set b _)
  exact aB
 .intro V A v e D;replace v:Keep (λi=>i=a) w1 A:=kD v;obtain ⟨a4,r⟩:∃J,(λ_ t=>Bk t a 197 ((tcells c).setIfInBounds b (.int .i64 (f+1:Nat)))) J A:=D 11 dC;simp only [zqq];clear e D;have M:A.cell? ⟨a,257,none⟩=some (.int .i64 n):=(by refine (r.cell 257).trans ?_;rw [zCe oM,<-s];exact jE c);have W:=r.frozen 257;have a0:=r.lt;go_wp2_with fail;go_ret;refine ⟨rfl,?_,?_⟩;rw [<-C];exact r.set 257 _;exact ((kF E).trans v).setCell (.inl rfl) _
def aF5:tcells []=Tryz.zeroCells197:=by kernel_rfl
def vD {A m} (x) {B L w} (t:Rd w B 1 A m (L.map sv)) (hB:B<=w.heap.size) (O:m<=1000) (y:∀c∈L,c < 257):
 Calls prog 136 #[.slice A m x] w λg w'=>∃b,g=.returned (.tuple #[.pointer (some ⟨b,0,none⟩),o0])/\w.heap.size<=b/\Bk w' b 197 (tcells L)/\Below w.heap.size w w':=by
 have r:L.length=m:=by simpa using t.1
 have u:=hB;go_enter func136,ntmps136;go_wp2_with fail;obtain ⟨b,p⟩:=eqx w.heap.size;have D:Bk (w.alloc (.cells Tryz.zeroCells197 197)) b 197 (tcells (L.take 0)):=by rw [zDN,aF5,<-p];exact kd _ _ _
 have z:=(kg w.heap.size w).alloc nL (.cells Tryz.zeroCells197 197)
 try rw [p]
 go_loopw [12] (λk wr=>∃a:Nat,a<=m/\k=.int .i64 a/\Bk wr b 197 (tcells (L.take a))/\Below w.heap.size w wr) (λk _=>m -(intOf k).toNat)
 case atStart=>exact ⟨0,by omega,rfl,D,z⟩
 case round=>
  obtain ⟨a,N,rfl,i,e⟩:=hrel;have I:=e.size;by_cases s:a < m
  .have F:a < L.length:=(by rw [r];exact s);obtain ⟨c,f⟩:∃c,L[a]?=some c:=⟨L[a],zAa F⟩;obtain ⟨v,P,Q,rfl,M,j,E⟩:=((t.mono u).below e).get s;rw [zAf,f] at j;simp at j;subst j;have H:c < 257:=y c (zAd f);have J:L.take (a+1)=L.take a++ [c]:=(by rw [zAv,f];rfl);have K:(L.take a).length<=1000:=(by rw [zAj];omega);unfold sv at E;clear f;go_wp2_with fail;refine (vE i H K).mono ?_;rintro g w1 ⟨rfl,o,q⟩;have C:Below w.heap.size w w1:=e.trans (q.e I (λv e g=>by omega));rw [<-J] at o;clear q;go_wp2_with fail;go_roundw
   case rel=>exact ⟨a+1,by omega,by go_num,o,C⟩
   case measure=>exact zr
  .have G:a=m:=oM;subst G;rw [zAg (by rw [r];omega)] at i;go_wp2_with fail;go_ret2;exact ⟨b,rfl,by omega,i,e⟩
section
open Go.Sort (SortedIn PermIn SWO Holds)
def pN (n:Nat) (j:n<=1000000) (a):(Instr.makeSlice 27 (.int .i64 n) (.int .i64 n)).run prog a=.ok (.slice (some a.heap.size) n n) (a.alloc (.cells (Array.replicate n (.int .i64 0)) 3)):=by
 obtain ⟨i,c,e,f,g⟩:=info_parts gI;have:=run_make (P:=prog) a 27 3 i (.int .i64 0) underlying27 c e .i64 .i64 n n oM (zFF _) (by rw [g];omega) oM;rw [this,f];have b:madeCells #[o0] n=Array.replicate n (.int .i64 0):=by apply zFs;rw [toList_madeCells_one];simp
 simp only [Value.cells,zBr,zBl];rw [b]
def jZ (n b:Nat):Array Value:=((List.range n).map λa=>Value.int .i64 (((if a < b then a else 0:Nat)):Int)).toArray
def aAC (n a):(jZ n a).size=n:=by simp [jZ]
def aGT (n):jZ n 0=Array.replicate n (.int .i64 0):=by
 apply zGk
 .simp [jZ]
 .intro c a b;simp [jZ]
def aGU {n a} (g:a < n):(jZ n a).setIfInBounds a (.int .i64 a)=jZ n (a+1):=by
 apply zGk
 .simp [jZ]
 .intro e i f;rw [Array.getElem_setIfInBounds (by simpa [jZ] using f)];by_cases b:a=e
  .subst b;simp [jZ]
  .rw [zBw b];simp only [jZ,List.getElem_toArray,zGr,zFM];by_cases c:e < a
   .rw [zBx c,zBx oM]
   .rw [zBw c,zBw oM]
def aJd (m):jZ (m+1) (m+1)=(aAb m).map (fS m):=by
 apply zGk
 .simp [jZ,aAb]
 .intro c a e;have b:c < m+1:=(by simpa [jZ] using a);simp [jZ,aAb,fS,b]
def aHW {e b c a n B} (j:Bk e b c a) (hB:B<=b) (i:a.size=n) (f:n<=maxLen):Made e B c 1 (some ⟨b,0,none⟩) n n a.toList:=by
 have g:e.ownsRow B c 1 (.slice (some b) n n) n a.toList:=⟨by simp [i],.inr ⟨b,n,a,rfl,hB,j,zAs _,f,by omega,by rw [zAg (by simp [i])]⟩⟩;exact ⟨g,Rd.s g,zAs _,f⟩
def aMJ {m} (d:Array (Fin (m+1))):(d.map (fS m)).toList=(d.toList.map (·.val)).map sv:=by
 simp [fS,sv]
def aCj {f:Array Value} {c e:Nat->Nat} {b g:Nat} (j:∀a,a < b->f[c a]?=some (.int .i64 (e a:Nat))) (o:c b < f.size) (k:∀a,a < b->c a≠c b) (p:e b=g) (a:Nat) (r:a < b+1):(f.setIfInBounds (c b) (.int .i64 g))[c a]?=some (.int .i64 (e a:Nat)):=by
 by_cases i:a=b
 .subst i;rw [zCd,zBx rfl,zBx o,p]
 rw [zCd,zBw (λq=>k a oM q.symm)];exact j a oM
structure RInv (B0:Nat) (w0:World) (m n:Nat) (l:List Nat) (gn gr gx:Nat) (wr:World) (gw g6 g7 c6 c7 wd:Nat) (d:Array (Fin (m+1))) (R:List Nat):Prop where
 wide:Bk wr gw 3 #[(wd:Int)]
 len:Bk wr gn 3 #[(n:Int)]
 box:Bk wr gr 27 #[.slice (some g6) n c6]
 U:∃cs:Array Value,Bk wr g6 3 cs/\n<=cs.size/\∀(j:Nat) u,(R.map sv)[j]?=some u->cs[j]?=some u
 next:∃cs:Array Value,Bk wr g7 3 cs/\n<=cs.size
 rows:Bk wr gx 3 (d.map (fS m))
 ok:RowsOk m d
 ap:gx≠gw/\gx≠gn/\gx≠g6/\gx≠g7/\g7≠gw/\g7≠gn/\g7≠g6/\g6≠gw/\g6≠gn
 lo:B0<=gx/\B0<=g6/\B0<=g7/\B0<=gr
 cap:n<=c6/\n<=c7
 ck:R.length=n
 co:∀r∈R,r<=1000
 rk:RankOk (aN l) (aN R) wd
 cg:1<=wd
 cf:wd<=n
 below:Below B0 w0 wr
structure SetT (B:Nat) (T:TypeId) (w w':World):Prop where
 below:Below B w w'
 other:∀b t cs,t≠T->Bk w b t cs->Bk w' b t cs
 one:∀b c,Bk w b T #[c]->∃c',Bk w' b T #[c']
def SetT.set {g i f a k} (q:Bk f a i #[k]) (r:g<=a) (e):SetT g i f (f.setCell a e):=by
 refine ⟨bR.setCell r _,λj t s ht b=>?_,λj o b=>?_⟩;exact b.m (λc=>ht (by subst c;exact (aU b q).1)) _;by_cases c:j=a;subst c;exact ⟨e,b.set 0 e⟩;exact ⟨o,b.m (p:=a) c _⟩
section
variable {B0 : Nat} {w0 : World} {m n : Nat} {l : List Nat} {gn gr gx : Nat} {wr w' : World} {gw g6 g7 c6 c7 wd : Nat} {d d' : Array (Fin (m + 1))} {R : List Nat}
def aEG {f:World} {e n:Nat} {R:List Nat} (k:R.length=n) (i:∃a:Array Value,Bk f e 3 a/\n<=a.size/\∀(b:Nat) c,(R.map sv)[b]?=some c->a[b]?=some c):Rd f f.heap.size 1 (some ⟨e,0,none⟩) n (R.map sv):=by
 obtain ⟨a,g,p,j⟩:=i;refine ⟨by simp [k],λ_=>⟨e,0,rfl,g.lt,λb c o=>?_⟩⟩;rw [zBi,g.cell];exact j b c o
def RInv.cl (a:RInv B0 w0 m n l gn gr gx wr gw g6 g7 c6 c7 wd d R) (b:Keep (λg=>g=gx) wr w'):OrdAt w' gw gn gr wd n (some ⟨g6,0,none⟩) c6 R:=by
 obtain ⟨c,e,f,p,q,r,s,t,u⟩:=a.ap;obtain ⟨i,j,k,o⟩:=a.U;exact ⟨((b.d a.wide c.symm).cell 0).trans rfl,((b.d a.len e.symm).cell 0).trans rfl,((b.d a.box (Bk.ne a.box a.rows dC)).cell 0).trans rfl,aEG a.ck ⟨i,b.d j f.symm,k,o⟩⟩
def RInv.cu (a:RInv B0 w0 m n l gn gr gx wr gw g6 g7 c6 c7 wd d R) (b:Keep (λc=>c=gx) wr w') (u:Bk w' gx 3 (d'.map (fS m))) (t:RowsOk m d'):RInv B0 w0 m n l gn gr gx w' gw g6 g7 c6 c7 wd d' R:=by
 obtain ⟨e,f,g,i,v,w,x,y,z⟩:=a.ap;obtain ⟨j,o,p,q⟩:=a.U;obtain ⟨k,r,s⟩:=a.next
 exact ⟨b.d a.wide e.symm,b.d a.len f.symm,b.d a.box (Bk.ne a.box a.rows dC),⟨j,b.d o g.symm,p,q⟩,⟨k,b.d r i.symm,s⟩,u,t,a.ap,a.lo,a.cap,a.ck,a.co,a.rk,a.cg,a.cf,
  a.below.trans (b.e (zk a.lo.1 a.rows.lt) (λc B A=>by have:=a.lo.1;omega))⟩
def RInv.bi (a:RInv B0 w0 m n l gn gr gx wr gw g6 g7 c6 c7 wd d R) (b:Keep (λe=>e=g7) wr w') (r:∃c:Array Value,Bk w' g7 3 c/\n<=c.size):RInv B0 w0 m n l gn gr gx w' gw g6 g7 c6 c7 wd d R:=by
 obtain ⟨s,t,u,f,g,i,j,v,w⟩:=a.ap;obtain ⟨c,k,o,p⟩:=a.U;obtain ⟨x,q,z⟩:=a.next
 exact ⟨b.d a.wide g.symm,b.d a.len i.symm,b.d a.box (Bk.ne a.box q dC),⟨c,b.d k j.symm,o,p⟩,r,b.d a.rows f,a.ok,a.ap,a.lo,a.cap,a.ck,a.co,a.rk,a.cg,a.cf,
  a.below.trans (b.e (zk a.lo.1 a.rows.lt) (λe A y=>by have:=a.lo.2.2.1;omega))⟩
def RInv.grow (a:RInv B0 w0 m n l gn gr gx wr gw g6 g7 c6 c7 wd d R) (c:Below wr.heap.size wr w'):RInv B0 w0 m n l gn gr gx w' gw g6 g7 c6 c7 wd d R:=
 a.bi (kF c) (by
  obtain ⟨e,b,f⟩:=a.next;exact ⟨e,b.below c b.lt,f⟩)
end
def qN {A m} (o) {B t w} (a6:Rd w B 1 A m (t.map bv)) (hB:B<=w.heap.size) (fe:m<=895):
 Calls prog 44 #[.slice A m o] w λr w'=>∃dE aw ab,IsSuf (aG t) dE/\r=.returned (.slice aw (m+1) ab)/\Made w' w.heap.size 3 1 aw (m+1) ab (dE.map sv)/\Below w.heap.size w w':=by
 have dr:t.length=m:=by simpa using a6.1
 obtain ⟨dK,cC⟩:=hqq2 a6 dr;clear a6 dr;go_enter func44,ntmps44;go_wp2_with fail;obtain ⟨n,bX⟩:=eqx (m+1);have c3:=aA2 (gs:=w.heap.size) (A:=A) (m:=m) (c:=o) (B:=w.heap.size) (t:=t) (w:=(w.alloc (.cells #[.slice A m o] 22))) 0 (kd _ _ _) ((dK.mono hB).alloc nL _) zs oM;rw [bX] at c3;have fg:n<=896:=oM;have ef:1<=n:=oM;have y:=lhd bX;clear bX;refine c3.mono ?_;clear c3;rintro r w1 ⟨bl,bE,rfl,di,d2⟩;have d3:=((kg w.heap.size w).alloc nL _).trans (d2.mono zs);obtain ⟨cw,aJ⟩:=hqq2 di d3;clear di d2 d3;go_wp2_with fail;obtain ⟨gn,b4⟩:=eqx w1.heap.size;have aE:Bk (w1.alloc (.cells #[(n:Int)] 3)) gn 3 #[(n:Int)]:=b4 ▸ kd _ _ _;have b9:=cw.below (bR.alloc nL (.cells #[(n:Int)] 3));have bK:=aJ.alloc aJ.size (.cells #[(n:Int)] 3);have bJ:=b9.rd;have eW:w.heap.size<=gn:=b4 ▸ aJ.size;rw [b4];generalize w1.alloc (.cells #[(n:Int)] 3)=W0 at aE b9 bK bJ⊢;clear cw aJ b4;have d7:=aE.cell 0;have dv:=aE.lt;have bt:Hid (W0.cell? gn=some (.int .i64 n)):=lhd d7;obtain ⟨bu,cm,dH,aI,bp⟩:=hqq5 dv bJ b9 bK aE;clear d7 dv bJ b9 bK aE;refine wp_region_any kR<|zQ (fs:=[6,19,21,23]) (C:=(Below W0.heap.size W0)) [18,19,20,21,22,23,6,5,7] 8 (SetT W0.heap.size 27) [k0 (is (n:Int)),k0 (λg u=>∃b,g=.slice (some ⟨b,0,none⟩) n n/\W0.heap.size<=b/\Bk u b 3 (Array.replicate n (.int .i64 0))),k0 (is (.slice bl n bE)),k0 (λg u=>∃A o,g=.slice A n o/\Made u W0.heap.size 3 1 A n o ((aG t).map sv)),k0 (is (n:Int)),k0 (λg u=>∃b,g=.slice (some ⟨b,0,none⟩) n n/\W0.heap.size<=b/\Bk u b 3 (Array.replicate n (.int .i64 0))),k0 (λg u=>∃b o,g=.pointer (some ⟨b,0,none⟩)/\W0.heap.size<=b/\Bk u b 27 #[o]),kEq 19,kLk 6 21 (λa7 g u=>∃b,a7=.pointer (some ⟨b,0,none⟩)/\W0.heap.size<=b/\Bk u b 27 #[g]),kEq 23] rfl kR kR (bR.drew) (aAQ rfl) (λw w' K a=>a.elim (λa=>K.trans (a.mono K.size)) (λa=>K.trans a.below)) (by repeat' (first | exact aGY _ | exact aH7 _ | exact aNi _ _ _ |(refine zAe.2 ⟨?_,?_⟩)|(intro J T;cases T))) (by repeat' (first | exact yZ _ _ | exact aEm _ | exact tZ _ _ | exact kM (λ_ _ _ ⟨b,D,s,E⟩ a=>⟨b,D,s,E.below a E.lt⟩)| exact kM (λ_ _ _ ⟨A,o,D,s⟩ a=>⟨A,o,D,s.below a⟩)| exact kM (λ_ _ _ ⟨b,o,D,s,E⟩ a=>⟨b,o,D,s,E.below a E.lt⟩)| exact kM (λ_ _ _ _ ⟨b,D,s,E⟩ a=>⟨b,D,s,E.below a E.lt⟩)| exact tY (λ_ _ _ ⟨b,D,s,E⟩ a=>⟨b,D,s,E.below a E.lt⟩)| exact tY (λ_ _ _ ⟨A,o,D,s⟩ a=>⟨A,o,D,s.below a⟩)| exact tY (λ_ _ _ ⟨b,o,D,s,E⟩ a=>⟨b,o,D,s,E.below a E.lt⟩)| exact tY (λ_ _ _ _ ⟨b,D,s,E⟩ a=>⟨b,D,s,E.below a E.lt⟩)|(refine zAe.2 ⟨?_,?_⟩)|(intro J T;cases T))) (by simp only [List.eraseIdx_cons_zero,List.eraseIdx_cons_succ,List.eraseIdx_nil];repeat' (first | exact yZ _ _ | exact aEm _ | exact tZ _ _ | exact kM (λ_ _ _ ⟨b,D,s,E⟩ a=>⟨b,D,s,a.other _ _ _ dC E⟩)| exact kM (λ_ _ _ ⟨A,o,D,s⟩ a=>⟨A,o,D,wN s λU G Z=>a.other _ _ _ dC Z⟩)| exact kM (λ_ _ _ ⟨b,o,D,s,E⟩ a=>let ⟨ab,cV⟩:=a.one _ _ E;⟨b,ab,D,s,cV⟩)|(refine zAe.2 ⟨?_,?_⟩)|(intro J T;cases T))) ?_ ?_
 .refine aL<|aD (cY rfl rfl λz _ L _ _ _ F _ _ _ _ M=>?_) ?_
  .obtain ⟨H,S⟩:=L;have e2:z (.tmp 4)=.pointer (some gn):=F 4 kR;clear F;have e9:=(H.cell (p:=gn) bu).trans bt;go_simp;exact M _ _ (dX bR rfl rfl) rfl
  refine aD (cY rfl rfl λ_ _ L _ _ _ F I _ _ _ M=>?_) ?_
  .obtain ⟨H,S⟩:=L;have eH:_=_:=I 0 18 kR rfl;clear F;have eo:=pN n oM;go_simp;exact M _ _ (kY (bR.alloc nL _) rfl (λb P=>by simp [blk?] at P;subst P;simp)) ⟨_,rfl,H.size,kd _ _ _⟩
  refine aD (cY rfl rfl λz _ L _ _ _ F _ _ _ _ M=>?_) ?_
  .obtain ⟨H,S⟩:=L;have eK:z (.tmp 3)=.slice bl n bE:=F 3 kR;clear F;go_simp;exact M _ _ (dX bR rfl rfl) rfl
  refine aD (cY rfl rfl λ_ _ L _ _ _ F I cG _ _ M=>?_) ?_
  .obtain ⟨H,S⟩:=L;have eI:_=_:=I 2 20 kR rfl;clear F;go_simp;refine (aBV (A:=bl) (n:=n) (B:=W0.heap.size) (l:=(aG t)) bE (cm.below H) H.size oM).mono ?_;rintro r fB ⟨aw,ab,rfl,bW,e7⟩;refine M _ _ (kY e7 rfl (λb P=>?_)) ⟨aw,ab,rfl,bW.mono H.size⟩;obtain ⟨_,_,_,_,fp⟩:=aZ bW.own;rcases aw with _ | cG
   .simp [blk?] at P
   obtain ⟨ev,dV,a5,_,b3⟩:=aZ bW.own;injection a5 with a5;have:=b3 cG a5.symm;simp [blk?] at P;subst P;exact this
  refine aD (cY rfl rfl λz _ L _ _ _ F _ _ _ _ M=>?_) ?_
  .obtain ⟨H,S⟩:=L;have e2:z (.tmp 4)=.pointer (some gn):=F 4 kR;clear F;have e9:=(H.cell (p:=gn) bu).trans bt;go_simp;exact M _ _ (dX bR rfl rfl) rfl
  refine aD (cY rfl rfl λ_ _ L _ _ _ F I _ _ _ M=>?_) ?_
  .obtain ⟨H,S⟩:=L;have eJ:_=_:=I 4 22 kR rfl;clear F;have eo:=pN n oM;go_simp;exact M _ _ (kY (bR.alloc nL _) rfl (λb P=>by simp [blk?] at P;subst P;simp)) ⟨_,rfl,H.size,kd _ _ _⟩
  refine aD (cY rfl rfl λ_ _ L _ _ _ F _ _ _ _ M=>?_) ?_
  .obtain ⟨H,S⟩:=L;clear F;go_simp;exact M _ _ (kY (bR.alloc nL _) rfl (λb P=>by simp [blk?] at P;subst P;simp)) ⟨_,_,rfl,H.size,kd _ _ _⟩
  refine aD (cY rfl rfl λz av L _ _ _ F I _ _ _ M=>?_) ?_
  .obtain ⟨H,S⟩:=L;have cb:(λg u=>∃b,g=.slice (some ⟨b,0,none⟩) n n/\W0.heap.size<=b/\Bk u b 3 (Array.replicate n (.int .i64 0))) (z (.tmp 19)) av:=I 1 19 kR rfl;clear F;clear cb;go_simp;exact M _ _ (dX bR rfl rfl) (by first | exact e19.symm | rfl)
  refine aD (cY rfl rfl λz av L _ _ _ F I _ _ _ M=>?_) ?_
  .obtain ⟨H,S⟩:=L;have ce:(λg u=>∃b o,g=.pointer (some ⟨b,0,none⟩)/\W0.heap.size<=b/\Bk u b 27 #[o]) (z (.tmp 6)) av:=I 6 6 kR rfl;have cc:(λg u=>∃A o,g=.slice A n o/\Made u W0.heap.size 3 1 A n o ((aG t).map sv)) (z (.tmp 21)) av:=I 3 21 kR rfl;clear F;obtain ⟨b,o,e3,P,Z⟩:=ce;obtain ⟨eu,eB,e1,ff⟩:=cc;have c6:=Z.cell 0;have eL:=Z.frozen 0;have eV:=Z.lt;go_simp;exact M (.bool true) _ (aLj (SetT.set Z P _) (by simp [World.setCell]) rfl) ⟨b,e3,P,by rw [e1];exact Z.set 0 _⟩
  refine aD (cY rfl rfl λz av L _ _ _ F I _ _ _ M=>?_) ?_
  .obtain ⟨H,S⟩:=L;have cd:(λg u=>∃b,g=.slice (some ⟨b,0,none⟩) n n/\W0.heap.size<=b/\Bk u b 3 (Array.replicate n (.int .i64 0))) (z (.tmp 23)) av:=I 5 23 kR rfl;clear F;clear cd;go_simp;exact M _ _ (dX bR rfl rfl) (by first | exact e23.symm | rfl)
  exact aB
 .intro z a8 H S I d1;have cS:z (.tmp 5)=z (.tmp 19):=I 7 5 rfl;have ce:(λg u=>∃b o,g=.pointer (some ⟨b,0,none⟩)/\W0.heap.size<=b/\Bk u b 27 #[o]) (z (.tmp 6)) a8:=I 6 6 rfl;have cT:z (.tmp 7)=z (.tmp 23):=I 9 7 rfl;have cb:(λg u=>∃b,g=.slice (some ⟨b,0,none⟩) n n/\W0.heap.size<=b/\Bk u b 3 (Array.replicate n (.int .i64 0))) (z (.tmp 19)) a8:=I 1 19 rfl;have cc:(λg u=>∃A o,g=.slice A n o/\Made u W0.heap.size 3 1 A n o ((aG t).map sv)) (z (.tmp 21)) a8:=I 3 21 rfl;have cd:(λg u=>∃b,g=.slice (some ⟨b,0,none⟩) n n/\W0.heap.size<=b/\Bk u b 3 (Array.replicate n (.int .i64 0))) (z (.tmp 23)) a8:=I 5 23 rfl;obtain ⟨fA,dB⟩:=d1 8 dC;have eq:(λa7 g u=>∃b,a7=.pointer (some ⟨b,0,none⟩)/\W0.heap.size<=b/\Bk u b 27 #[g]) (z (.tmp 6)) (z (.tmp 21)) a8:=dB;clear dB;simp only [zqq];clear I d1;obtain ⟨gx,bd,du,c8⟩:=cb;obtain ⟨g7,b2,eR,cZ⟩:=cd;obtain ⟨dG,c6,b0,bI⟩:=cc;obtain ⟨gr,dm,fl,c2⟩:=eq;rw [b0] at c2;obtain ⟨g6,rfl,eQ,cW⟩:∃g6,dG=some ⟨g6,0,none⟩/\W0.heap.size<=g6/\∃G:Array Value,Bk a8 g6 3 G/\n<=G.size/\∀(e:Nat) a7,((aG t).map sv)[e]?=some a7->G[e]?=some a7:=by
   rcases bI.own.2 with ⟨K,_⟩|⟨b,eC,dY,K,s,E,cV,eO,eP,e6⟩;injection K with b3 a5;omega
   .injection K with b3 a5 h10;refine ⟨b,b3,s,dY,E,by omega,λe a7 bb=>?_⟩;rw [<-e6,zBs,zDz] at bb;split at bb;exact bb
    .cases bb
  have d8:gx≠g7:=λr=>S.2 19 zs 23 zs dC gx (by rw [bd];rfl) (by rw [b2,r];rfl);have d9:gx≠g6:=λr=>S.2 19 zs 21 zs dC gx (by rw [bd];rfl) (by rw [b0,r];rfl);have da:g7≠g6:=λr=>S.2 23 zs 21 zs dC g7 (by rw [b2];rfl) (by rw [b0,r];rfl);have ea:=bp.lt;have d4:=bp.below H ea;have dd:=aI.trans (H.mono aI.size);have eY:=aI.size;rw [<-aGT] at c8;have aj:n<=c6:=bI.cap;rw [cS,cT,bd,b2,dm];obtain ⟨aT,bn,ch,aR,bq,a2⟩:=hqq6 c8 cZ cW c2 d4 dd;have cq:gx≠g7/\gx≠g6/\g7≠g6:=⟨d8,d9,da⟩;have cl:=lhd cq;clear cS cT bd b2 dm c8 cZ cW c2 d4 dd cq d8 d9 da H S ce b0 bI cm dH aI bp bt bu;go_wp2_with fail;go_loopw [26,8] (λq _ wr=>∃a:Nat,a<=n/\q=.int .i64 a/\Bk wr gx 3 (jZ n a)/\Keep (λU=>U=gx) a8 wr) (λq _ _=>n -(intOf q).toNat)
  case atStart=>exact ⟨0,by omega,rfl,aT,ke _ _⟩
  case round=>
   obtain ⟨a,ec,rfl,ah,a1⟩:=hrel;by_cases b8:a < n
   .have cH:=ah.cell a;have e4:=ah.frozen a;rw [zAq (by rw [aAC];exact b8)] at cH;obtain ⟨aK,a4⟩:=hqq2 ah a1;clear ah a1;generalize (jZ n a)[a]'(by rw [aAC];exact b8)=u0 at cH;go_wp2_with fail;go_roundw
    case rel=>exact ⟨a+1,by omega,by go_num,by rw [<-aGU b8];exact aK.set a _,a4.setCell (.inl rfl) _⟩
    case measure=>exact zr
   .obtain rfl:n=a:=oM;obtain ⟨aK,a4⟩:=hqq2 ah a1;clear ah a1;go_wp2_with fail;obtain ⟨gw,bT⟩:=eqx wr.heap.size;have d5:Bk (wr.alloc (.cells #[(1:Int)] 3)) gw 3 #[(1:Int)]:=bT ▸ kd _ _ _
    have am:RInv w.heap.size w m n (aG t) gn gr gx (wr.alloc (.cells #[(1:Int)] 3)) gw g6 g7 c6 n 1 (aAb m) (aG t):=by
     obtain ⟨cQ,cR,dZ⟩:=cl;obtain ⟨G,dw,ek,el⟩:=ch;have an:=a4.out;have be:=an.size;have fr:=aT.lt;have ft:=bq.lt;have fu:=bn.lt;have ep:=dw.lt;have fx:=aR.lt;refine ⟨d5,(an.d bq (λr=>by have:=du;omega)).alloc _,(an.d aR (λr=>by subst r;exact Bk.ne aR aT dC rfl)).alloc _,⟨G,(an.d dw (λr=>cR r.symm)).alloc _,ek,el⟩,⟨_,(an.d bn (λr=>cQ r.symm)).alloc _,by simp⟩,?_,aKz m,?_,?_,⟨aj,zAs _⟩,?_,?_,aGu _,zAs _,ef,?_⟩;have:=aK.out;rw [<-y.out,aJd] at this;exact this.alloc _
     .refine ⟨?_,?_,cR,cQ,?_,?_,dZ,?_,?_⟩<;> omega
     .refine ⟨?_,?_,?_,?_⟩<;> omega
     .rw [aO,cC.out,y.out]
     intro cg a6;have:=eX t cg a6;omega;refine (a2.trans ?_).alloc oM _;exact an.e (zj a2.size) (λU Z r=>by have:=du;omega)
    rw [bT];generalize wr.alloc (.cells #[(1:Int)] 3)=W8 at am⊢;have ay:=lhd am;clear am d5 bT aK a4 cl ch bq aR bn aT a2
    go_loopg [7,9] (n) (λgk bh bi wr=>∃gw g6 g7 c6 c7 wd d R,bh=.slice (some ⟨g7,0,none⟩) n c7/\bi=.pointer (some ⟨gw,0,none⟩)/\n - wd<=gk/\RInv w.heap.size w m n (aG t) gn gr gx wr gw g6 g7 c6 c7 wd d R)
    case atStart=>exact ⟨_,_,_,_,_,_,_,_,rfl,rfl,by omega,ay⟩
    case round=>
     clear ay;obtain ⟨gw,g6,g7,c6,c7,wd,d,R,rfl,rfl,eZ,am⟩:=hrel;have ay:=lhd am;clear am;go_wp2_with fail;obtain ⟨ae,bS⟩:=eqx wr.heap.size;have ag:Bk (wr.alloc (.cells #[.func (.func 82) #[] #[.pointer (some ⟨gw,0,none⟩),gn,gr]] 81)) ae 81 #[.func (.func 82) #[] #[.pointer (some ⟨gw,0,none⟩),gn,gr]]:=bS ▸ kd _ _ _;have O:=ay.grow ((kg wr.heap.size wr).alloc nL (.cells #[.func (.func 82) #[] #[.pointer (some ⟨gw,0,none⟩),gn,gr]] 81));rw [bS];generalize wr.alloc (.cells #[.func (.func 82) #[] #[.pointer (some ⟨gw,0,none⟩),gn,gr]] 81)=W1 at ag O⊢;have bO:d.size=n:=(by rw [O.ok.size,y.out]);have d6:CmpReads prog 83 #[gr,ae] (fS m) (cfF m wd R) gx 0 d.size W1:=λx aq e0 eT bh bi=>by have a:=kV (enc:=fS m) O.rows.lt 0 x e0 aq;exact aCA (gw:=gw) (gn:=gn) (gr:=gr) (w:=wd) (n:=n) (c:=c6) (A:=(some ⟨g6,0,none⟩)) (R:=R) ae bh.val bi.val (O.cl a) (((a.d ag (Bk.ne ag O.rows dC)).cell 0).trans rfl) (zj O.cf) oM O.co (zk bh.isLt y.out) (zk bi.isLt y.out)
     have c4:=Any.slices_SortFunc shSort (fS m) (oC m) (cfF m wd R) (aNY m O.rk) 83 #[gr,ae] gx 0 n d W1 (enters_of func83 kR rfl) d6.lays (aL1 O.rows) O.rows.lt oM;rw [bO] at c4;refine c4.mono ?_;clear c4 d6;rintro r aU ⟨rfl,d',nq,aq,bZ,c5,rfl⟩;have dl:RowsOk m d':=O.ok.b9 (by rw [bO];exact bZ);have b5:=O.cu (kV (enc:=fS m) O.rows.lt 0 nq d' aq) (aMB O.rows bZ.1 nq aq) dl;have bL:=(kV (enc:=fS m) O.rows.lt 0 nq d' aq).d ag (Bk.ne ag O.rows dC);generalize Go.Proofs.sortWorld (fS m) W1 gx 0 nq d' aq=aU at b5 bL⊢;have dp:∀q,q+1 < n->¬ltW (aN (aG t)) (wd+wd) (eU d' (q+1)) (eU d' q):=(by rw [<-y.out] at c5⊢;exact λq al=>aKm (i:=q) b5.rk dl.size c5 al);obtain ⟨cB,a9,cn⟩:=hqq3 dp b5 bL;clear dp O b5 ag bL bZ c5 bO ay bS;have aC:=y.out;have dh:=a9.ok.lt 0;have cP:aU.cell? gx=some (.int .i64 (eU d' 0:Nat)):=(a9.rows.cell 0).trans (a9.ok.cell oM);obtain ⟨dW,bg,dy⟩:=a9.next;obtain ⟨ar,bY⟩:=eqx (eU d' 0);rw [bY] at cP dh;have bF:=bg.cell ar;rw [zAq oM] at bF;have e5:=bg.frozen ar;generalize dW[ar]' oM=u7 at bF;have eg:ar < n:=oM;obtain ⟨cE,cy⟩:=hqq2 bg bY;clear bg bY aC dh;go_wp2_with fail;clear cP bF e5;go_loopw [12] (λq dF=>∃a:Nat,1<=a/\a<=n/\q=.int .i64 a/\∃G:Array Value,Bk dF g7 3 G/\n<=G.size/\(∀e,e < a->G[eU d' e]?=some (.int .i64 (cN (lV (aN R) wd) (eU d') e:Nat)))/\Keep (λU=>U=g7) aU dF) (λq _=>n -(intOf q).toNat)
     case atStart=>refine ⟨1,by omega,by omega,rfl,_,cE.set ar _,by simpa using dy,λe aH=>?_,(ke (λU=>U=g7) aU).setCell (p:=⟨g7,ar,none⟩) (.inl rfl) _⟩;obtain rfl:e=0:=oM;rw [cy.out,zCd,zBx rfl,zBx oM];rfl
     case round=>
      clear cE cy eg dy;obtain ⟨a,fc,ec,rfl,G,a0,aF,ai,a1⟩:=hrel;have N:=a9.bi a1 ⟨G,a0,aF⟩;by_cases b8:a < n
      .obtain ⟨e,aH⟩:∃e,a=e+1:=⟨a - 1,by omega⟩;have aC:=y.out;have a3:wr.cell? ⟨gx,a,none⟩=some (.int .i64 (eU d' a:Nat)):=(N.rows.cell a).trans (N.ok.cell oM);have ac:wr.cell? ⟨gx,e,none⟩=some (.int .i64 (eU d' e:Nat)):=(N.rows.cell e).trans (N.ok.cell oM);have aW:=(a0.cell (eU d' e)).trans (ai e oM);have dA:=N.ok.lt a;have dz:=N.ok.lt e;have aA:=a0.cell (eU d' a);rw [zAq oM] at aA;have bH:=a0.frozen (eU d' a);generalize G[eU d' a]' oM=uk at aA;have aV:=(N.len.cell 0).trans rfl;have aY:IntKind.i64.wrap (a - 1)=(e:Int):=zu;have ed:=zy ((a:Int) < n);obtain ⟨Q,c1⟩:=eqx (eU d' a);obtain ⟨au,c0⟩:=eqx (eU d' e);obtain ⟨g,bc⟩:=eqx (cN (lV (aN R) wd) (eU d') e);have ds:=yC (lV (aN R) wd) (eU d') 0 e;rw [zBi,bc] at ds;have fm:g<=1000:=(by have:cN (lV (aN R) wd) (eU d') 0=0:=rfl;omega);rw [c1] at a3 dA aA bH;rw [c0] at ac dz aW;rw [bc] at aW;have ei:Q < n:=oM;have eh:au < n:=oM;have fb:e < n:=oM;obtain ⟨ax,X,aM,a4,k,az,cz,dM,aQ⟩:=hqq9 a0 aF ai a1 N c1 c0 bc aH;clear a0 aF ai a1 N c1 c0 bc ds aC dA dz aH;go_wp2_with fail;refine wp_region_still_tail 14 kR kR ?_;simp only [zDS,zDN,zFa,zFA];change wpStill _ _ wr.drew (λdO=>wpList _ _ _ _ dO wr.drew) _ _;have cK:wr.drew.cell? ⟨gx,a,none⟩=_:=a3;have cJ:wr.drew.cell? ⟨gx,e,none⟩=_:=ac;have cM:wr.drew.cell? ⟨g7,au,none⟩=_:=aW;have cO:wr.drew.cell? ⟨g7,Q,none⟩=_:=aA;have cU:wr.drew.frozen? ⟨g7,Q,none⟩=false:=bH;obtain ⟨br,bx,bw⟩:=hqq3 ax.out.drew a4.out.drew (k.out.bi (ke _ _).drew ⟨G,ax.out.drew,X.out⟩);clear a3 ac aW aA bH aV ax a4 k;generalize wr.drew=W5 at cK cJ cM cO cU br bx bw⊢
       iterate 14 still_step
       refine wpStill_nil ?_;go_wp2_with fail;have aj:=br.set Q (.int .i64 g);have b6:=bx.setCell (p:=⟨g7,Q,none⟩) (.inl rfl) (.int .i64 g);have V:=bw.bi ((ke (λU=>U=g7) W5).setCell (p:=⟨g7,Q,none⟩) (.inl rfl) (.int .i64 g)) ⟨_,aj,by simpa using X.out⟩
       have bM:=b6.d cn (λr=>by
        obtain ⟨eF,a5,_⟩:=a9.next;subst r;exact Bk.ne cn a5 dC rfl)
       generalize W5.setCell ⟨g7,Q,none⟩ (.int .i64 g)=W6 at aj b6 V bM⊢;clear cK cJ cM cO cU br bx bw;have a3:W6.cell? ⟨gx,a,none⟩=some (.int .i64 Q):=(by rw [<-az.out];exact (V.rows.cell a).trans (V.ok.cell (zj y.out)));have ac:W6.cell? ⟨gx,e,none⟩=some (.int .i64 au):=(by rw [<-cz.out];exact (V.rows.cell e).trans (V.ok.cell (zj y.out)));obtain ⟨bj,be⟩:=eqx (lV (aN R) wd au Q);have ca:∀x:Nat,Calls prog 83 #[(au:Int),(Q:Int),gr,ae] (W6.drewN x) λr w'=>r=.returned (.int .i64 bj)/\∃cf,w'=W6.drewN cf:=λx=>by have K:=aCA (gw:=gw) (gn:=gn) (gr:=gr) (w:=wd) (n:=n) (c:=c6) (A:=(some ⟨g6,0,none⟩)) (R:=R) (W:=(W6.drewN x)) ae au Q ((V.cl (ke _ _)).drewN x) ((bM.drewN x).cell 0) (zj V.cf) oM V.co eh ei;rw [be] at K;exact K.mono λ_ _ ⟨bP,cf,ba⟩=>⟨bP,x+cf,by rw [ba,zEA]⟩
       obtain ⟨aP,cu,dJ,dN⟩:=hqq4 aj b6 V be;have aX:((a:Int) - 1).toNat=e:=(zj aQ.out);have ad:(0:Int)<=a - 1:=(zj aQ.out);clear aj b6 V bM be;go_quiet ((with_reducible exact ca _));have bQ:eU d' a < G.size:=(by rw [az.out];have:=X.out;omega);have bU:∀bf,bf < a->eU d' bf≠eU d' a:=λbf fa r=>by have:=dJ.ok.inj (i:=bf) (j:=a) (zj y.out) (zj y.out) r;omega
       have ak:cN (lV (aN R) wd) (eU d') a=g+(if bj≠0 then 1 else 0):=(by rw [aQ.out,<-dM.out];show cN _ _ e+(if lV (aN R) wd (eU d' e) (eU d' (e+1))≠0 then 1 else 0)=_;rw [<-aQ.out,az.out,cz.out,dN.out]);obtain ⟨cr,ct⟩:=hqq2 bQ bU;by_cases c9:bj=0
       .subst c9;rw [zBw zs,zBq] at ak;have bs:=lhd ak;clear ak bQ bU a3 ac ca aX ad aY;go_wp2_with fail;go_roundw
        case rel=>refine ⟨a+1,by omega,by omega,by go_num,_,aP.drewN _,by simpa using X.out,?_,cu.drewN _⟩;have:=aCj aM cr ct bs;rw [az.out] at this;exact this
        case measure=>exact zr
       .rw [zBx c9] at ak;have bs:=lhd ak;have dV:W6.cell? ⟨g7,Q,none⟩=some (.int .i64 g):=(by rw [aP.cell,zCd,zBx rfl,zBx (zj X.out)]);have eM:=aP.frozen Q;have fn:IntKind.i64.wrap (g+1)=((g+1:Nat):Int):=zu;have fq:(bj==0)=false:=(by simpa using c9);clear ak bQ bU ac ca aX ad aY;go_wp2_with fail;go_roundw
        case rel=>refine ⟨a+1,by omega,by omega,by go_num,_,(aP.drewN nq).set Q _,by simpa using X.out,?_,(cu.drewN nq).setCell (p:=⟨g7,Q,none⟩) (.inl rfl) _⟩;have:=aCj aM cr ct bs;rw [az.out] at this;rw [set_set];exact this
        case measure=>exact zr
      .obtain rfl:n=a:=oM;have aC:=y.out;obtain ⟨x,ba⟩:∃x,n=x+1:=⟨n - 1,by omega⟩;obtain ⟨ao,b7⟩:=eqx (cN (lV (aN R) wd) (eU d') x);have db:=yC (lV (aN R) wd) (eU d') 0 x;rw [zBi,b7] at db;have fd:ao<=x:=(by have:cN (lV (aN R) wd) (eU d') 0=0:=rfl;omega);obtain ⟨J,T⟩:=eqx (eU d' x);have fi:J < n:=(zj (N.ok.lt x));have af:=N.box;have eD:=(N.len.cell 0).trans rfl;have ex:=af.cell 0;have e4:=af.frozen 0;have b1:∀b G,Bk wr b 3 G->Bk (wr.setCell gr (.slice (some ⟨g7,0,none⟩) n c7)) b 3 G:=λb G K=>K.m (p:=gr) (Bk.ne K af dC) _;have a3:(wr.setCell gr (.slice (some ⟨g7,0,none⟩) n c7)).cell? ⟨gx,x,none⟩=some (.int .i64 J):=(by rw [<-T];exact ((b1 _ _ N.rows).cell x).trans (N.ok.cell oM));have cL:(wr.setCell gr (.slice (some ⟨g7,0,none⟩) n c7)).cell? ⟨g7,J,none⟩=some (.int .i64 ao):=(by rw [<-T,<-b7];exact ((b1 _ _ a0).cell _).trans (ai x oM));have aV:=((b1 _ _ N.len).cell 0).trans rfl;have cI:=(af.set 0 (.slice (some ⟨g7,0,none⟩) n c7)).cell 0;have bG:=((b1 _ _ N.wide).cell 0).trans rfl;have ee:x < n:=oM;have aY:IntKind.i64.wrap (n - 1)=(x:Int):=zu;obtain ⟨bB,cv,ew,k,ax,X,aM,dI,ck⟩:=hqq9 ba b7 T N a0 aF ai af b1;have ed:=zn ((n:Int) < n);clear ba b7 T N a0 aF ai a1 af b1 aC db;go_wp2_with fail;have bN:=dI.set 0 (.slice (some ⟨g7,0,none⟩) n c7);have bV:=(ke (λU=>U=gr) wr).setCell (p:=gr) (.inl rfl) (.slice (some ⟨g7,0,none⟩) n c7);have b1:=ck.out;generalize wr.setCell gr (.slice (some ⟨g7,0,none⟩) n c7)=W9 at a3 cL aV cI bG bN bV b1⊢;have dn:=b1 _ _ k.rows;have d0:=b1 _ _ ax;have dt:=b1 _ _ k.wide;have dj:=b1 _ _ k.len;obtain ⟨eE,dx,em,en⟩:=k.U;have cX:=b1 _ _ dx;have de:=k.below.trans (bV.e (zk k.lo.1 k.rows.lt) (λU Z r=>by have:=k.lo.2.2.2;omega));obtain ⟨cp,cA,cj,cD,cx,ci,aa⟩:=hqq7 bN dn d0 dt dj cX de;clear bN bV b1 dn d0 dt dj cX de dx en ck;have aX:((n:Int) - 1).toNat=x:=(zj bB.out);have ad:(0:Int)<=n - 1:=(zj bB.out);have dk:∀q e,lV (aN R) wd q e=0↔eqW (aN (aG t)) (wd+wd) q e:=aMS k.rk;have df:(aG t).length=n:=(by rw [aO,cC.out,y.out]);obtain ⟨bA,Y⟩:=hqq2 dk df;clear dk df;go_quiet (fail);clear aX ad aY a3 cL aV cI bG;obtain ⟨co,aS,bo,bC,bz,bm⟩:=hqq6 (cp.out.drewN nq) (cA.out.drewN nq) (cj.out.drewN nq) (cD.out.drewN nq) (cx.out.drewN nq) (ci.out.drewN nq);have dc:Below w.heap.size w (W9.drewN nq):=⟨aa.os,aa.tape,aa.output,aa.size,aa.block⟩;have a2:=lhd dc;clear dc cp cA cj cD cx ci aa;generalize W9.drewN nq=W10 at co aS bo bC bz bm a2⊢;by_cases dg:ao=x
       .subst dg;have dq:=k.ok.aa (l:=aG t) (by rw [Y.out,y.out]) (w:=wd+wd) (λq e eb aH=>aOw (i:=q) (j:=e) bA cB oM (by have:=bB.out;have:=cv.out;rw [show n - 1=ao by omega];exact this) eb (zj y.out));have dL:=lhd dq;clear dq;go_wp2_with fail;go_ret;refine ⟨_,some ⟨gx,0,none⟩,n,dL,by rw [y.out];rfl,?_,a2⟩;rw [<-aMJ];have:=aHW aS k.lo.1 (n:=n) (by simp [k.ok.size,y.out]) zx;have e8:∀bD,Made W10 w.heap.size 3 1 (some ⟨gx,0,none⟩) n n bD->Made W10 w.heap.size 3 1 (some ⟨gx,0,none⟩) (m+1) n bD:=λbD K=>by rw [y.out];exact K
        exact e8 _ this
       .have fj:((ao:Int)==x)=false:=zt;have fk:(ao==x)=false:=zt;have bG:=bC.cell 0;have eG:=bC.lt;have fo:wd<=896:=(zj k.cf);go_wp2_with fail;have fh:wd+wd < n:=by rcases zBe (wd+wd) n with K | K;exact K;exfalso;apply dg;rw [<-cv.out];refine aNq (n:=n) (λq al bP=>?_) x ee;have:=(bA _ _).1 bP;have eS:=y.out;refine aHP (l:=aG t) (by rw [Y.out];exact K) (by rw [Y.out];have:=k.ok.lt q;omega) (by rw [Y.out];have:=k.ok.lt (q+1);omega) (λr=>?_) this;have:=k.ok.inj oM oM r;omega
        go_roundg (n -(wd+wd))
        case measure=>have:=k.cg;omega
        case rel=>
         obtain ⟨cF,dD,er,es,et⟩:=aKL (cs:=G) (f:=eU d') (v:=cN (lV (aN R) wd) (eU d')) X (λe _=>by have:=k.ok.lt e;have:=y.out;omega) aM (λJ T=>by
          obtain ⟨q,D,s⟩:=k.ok.cP (p:=J) (zj y.out);exact ⟨q,by have:=y.out;omega,s⟩)
         have ej:RankOk (aN (aG t)) (aN cF) (wd+wd):=(by refine aIO (zj k.cg) bA (λq al=>cB q (by rw [<-Y.out];exact al)) (by rw [dD,Y.out]) (λq al=>er q (by rw [<-Y.out];exact al)) (λJ T=>?_);obtain ⟨q,D,s⟩:=k.ok.cP (p:=J) (by have:=y.out;rw [Y.out] at T;omega);exact ⟨q,by have:=y.out;rw [Y.out];omega,s⟩);obtain ⟨ey,dP,dQ,dR,ez,dS,dT,eA,dU⟩:=k.ap;have fz:=aS.lt;have fy:=k.cg;have fv:=bo.lt;have ep:=bm.lt;have fw:=bz.lt;have ad:(wd:Int)*2=(wd+wd:Nat):=oM;rw [ad];refine ⟨_,_,_,_,_,wd+wd,d',cF,rfl,rfl,zAs _,kd _ _ _,bz.alloc _,co.alloc _,⟨_,bo.alloc _,X,es⟩,⟨_,bm.alloc _,em⟩,aS.alloc _,k.ok,⟨?_,dP,dR,dQ,?_,dU,dT.symm,?_,dS⟩,⟨k.lo.1,k.lo.2.2.1,k.lo.2.1,k.lo.2.2.2⟩,⟨k.cap.2,k.cap.1⟩,dD,?_,ej,by omega,by omega,a2.alloc a2.size _⟩;omega;omega;omega;intro cg a6;obtain ⟨e,aH,rfl⟩:=et cg a6;have:=yC (lV (aN R) wd) (eU d') 0 e;rw [zBi] at this;have eN:cN (lV (aN R) wd) (eU d') 0=0:=rfl;omega
end
end Go.Proofs.YtlghmcogeipojaaGreatDoor
