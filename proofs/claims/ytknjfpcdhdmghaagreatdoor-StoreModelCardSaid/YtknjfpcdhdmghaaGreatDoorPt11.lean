/- Lemmas of the walk. Conditions: each its own. -/
import Derived.Test.YtknjfpcdhdmghaaGreatDoorPt9
set_option linter.all false
set_option maxRecDepth 100000
set_option maxHeartbeats 1000000
namespace Go.Proofs.YtknjfpcdhdmghaaGreatDoor
open Tryz
section
open Go.RowKit
def TreeEo (w:World) (F:Nat->Prop) (gt:Nat) (o:Option Tr):Prop:=
 ∃(k:Nat) (i:Option Addr) (j b:Nat) (g:List Value) (l:List Bool) (c:List Nat) (e n:Int),TX w F gt k i j b g l c e n/\b<=200/\((o=none/\e=-1/\c.Perm (List.range b))∨∃t:LT,o=some t.er/\t.In w g/\e=(t.num:Int)/\t.er.Ok/\t.len<=1100/\(t.nums++c).Perm (List.range b)/\t.blks.Nodup/\∀f,f∈t.blks->F f)
def TreeE (w:World) (F:Nat->Prop) (gt:Nat) (bs:List Bool):Prop:=∃o,cH o=bs/\TreeEo w F gt o
def TreeB (w:World) (b gt:Nat) (bs:List Bool):Prop:=TreeE w (λc=>b<=c) gt bs
section
variable {w w' : World} {F G : Nat -> Prop} {gt : Nat} {bs : List Bool} {o : Option Tr}
def TreeEo.at (k:TreeEo w F gt o):TreeO w gt o:=by
 obtain ⟨e,b,c,g,j,s,q,r,i,f,_,⟨rfl,rfl,_⟩|⟨t,rfl,p,rfl,l,n,_⟩⟩:=k;exact ⟨e,b,c,g,j,_,i,f.rd,.inl ⟨rfl,rfl⟩⟩;exact ⟨e,b,c,g,j,_,i,f.rd,.inr ⟨t,rfl,p,rfl,l,n⟩⟩
def TreeEo.b (k:TreeEo w F gt o) (c:Vis w w'):TreeEo w' F gt o:=by
 obtain ⟨j,e,f,s,y,v,i,u,z,l,q,b⟩:=k;obtain ⟨x,n⟩:=l.b c;refine ⟨j,e,f,s,y,v,i,u,x,n,q,?_⟩;rcases b with b |⟨t,g,r,p⟩;exact .inl b;exact .inr ⟨t,g,r.b c,p⟩
def LT.In.blt:∀ {t:LT} {e:List Value},t.In w e->∀b,b∈t.blks->b < w.heap.size:=λc=>rO c
def TreeEo.mono (q:TreeEo w F gt o) (i:∀b,b < w.heap.size->F b->G b):TreeEo w G gt o:=by
 obtain ⟨p,j,k,B,H,D,n,C,E,r,A,e⟩:=q;refine ⟨p,j,k,B,H,D,n,C,E,r.mono i,A,?_⟩;rcases e with e |⟨t,l,g,s,u,v,x,y,z⟩;exact .inl e;exact .inr ⟨t,l,g,s,u,v,x,y,λc f=>i c (g.blt c f) (z c f)⟩
def TreeEo.keep (s:TreeEo w F gt o) (j:Keep G w w') (i:∀b t c,t∈ [233,183,236,250,4,3]->Bk w b t c->F b->¬G b):TreeEo w' F gt o:=by
 obtain ⟨r,k,l,E,K,I,p,H,J,u,C,e⟩:=s;refine ⟨r,k,l,E,K,I,p,H,J,u.keep j λb t c ht=>i b t c (by simp at ht;rcases ht with rfl | rfl | rfl | rfl | rfl <;> decide),C,?_⟩;rcases e with e |⟨t,n,D,v,x,y,z,A,f⟩;exact .inl e;exact .inr ⟨t,n,D.keep (λ_ _ _ a=>a) (λq B c g=>j.d g (i _ _ _ dC g (f q B))),v,x,y,z,A,f⟩
def TreeEo.below (c:TreeEo w F gt o) (e:Below w.heap.size w w'):TreeEo w' F gt o:=c.keep (G:=λ_=>False) (kF e) λ_ _ _ _ _ _ b=>b
def TreeE.at (b:TreeE w F gt bs):TreeAt w gt bs:=by
 obtain ⟨o,c,b⟩:=b;exact ⟨o,c,b.at⟩
def TreeE.le (b:TreeE w F gt bs):bs.length<=1100:=b.at.le
def TreeE.b (b:TreeE w F gt bs) (e:Vis w w'):TreeE w' F gt bs:=by
 obtain ⟨o,c,b⟩:=b;exact ⟨o,c,b.b e⟩
def TreeE.mono (c:TreeE w F gt bs) (f:∀b,b < w.heap.size->F b->G b):TreeE w G gt bs:=by
 obtain ⟨o,e,c⟩:=c;exact ⟨o,e,c.mono f⟩
def TreeE.keep (c:TreeE w F gt bs) (i:Keep G w w') (g:∀b t e,t∈ [233,183,236,250,4,3]->Bk w b t e->F b->¬G b):TreeE w' F gt bs:=by
 obtain ⟨o,f,c⟩:=c;exact ⟨o,f,c.keep i g⟩
def TreeE.below (c:TreeE w F gt bs) (e:Below w.heap.size w w'):TreeE w' F gt bs:=c.keep (G:=λ_=>False) (kF e) λ_ _ _ _ _ _ b=>b
def TreeB.at {b} (c:TreeB w b gt bs):TreeAt w gt bs:=TreeE.at c
def TreeB.keep {c} (e:TreeB w c gt bs) (j:Keep F w w') (i:∀b,F b->b < c):TreeB w' c gt bs:=TreeE.keep e j λb _ _ _ _ g f=>by
 have:=i b f;have k:c<=b:=g;omega
def TreeB.below {B} (b:TreeB w B gt bs) (c:Below w.heap.size w w'):TreeB w' B gt bs:=TreeE.below b c
def TreeB.mono {B B'} (b:TreeB w B gt bs) (hB:B'<=B):TreeB w B' gt bs:=TreeE.mono b λe _ c=>zAk hB c
def TreeB.own {b} (e:TreeB w b gt bs):TreeE w (λc=>b<=c) gt bs:=e
end
def aFl {gt bs c w} (b:TreeAt w gt bs) (g:c < bs.length):
 Calls prog 163 #[gt,(c:Int)] w λf w'=>f=.returned (.tuple #[.bool (bs.getD c false),o0])/\VisK (λe=>e=gt) w w':=by
 obtain ⟨o,rfl,b⟩:=b;exact aJA b g
def mL (w:World) (b:Nat) (c:TypeId) (e:Nat):w.ownsRow b c e (.slice none 0 0) 0 []:=ki _ _ _ _
def TreeAt.a {w gt bs} (c:TreeAt w gt bs):∃b,Bk w gt 233 b:=by
 obtain ⟨o,f,c⟩:=c;obtain ⟨b,e,_⟩:=c.a;exact ⟨b,e⟩
def TreeE.W {w F gt bs} (b:TreeE w F gt bs):F gt:=by
 obtain ⟨_,_,_,_,_,_,_,_,_,_,_,b,_⟩:=b;exact b.W
def TreeB.base {w b gt bs} (c:TreeB w b gt bs):b<=gt:=TreeE.W c
def HtB (b c:Nat):Prop:=∀t:Tr,t.Ok->t.bits.length<=c->t.ht<=b
def HtB.mono {b c m} (e:HtB b c) (i:m<=c):HtB b m:=λt f g=>e t f (zAk g i)
def aH2 {b} (c:b<=1100):HtB 1100 b:=λt e f=>zAk e.a4 (zAk f c)
def TreeO.ht {w gt b} {o:Option Tr} (c:TreeO w gt o) (f:HtB b (cH o).length):oht o<=b:=by
 obtain ⟨_,_,_,_,_,_,_,_,⟨rfl,_⟩|⟨t,rfl,_,_,e,_⟩⟩:=c;exact zAp _;exact f _ e nL
def RankV.mono {gt b c w} (e:RankV gt b w) (i:b<=c):RankV gt c w:=by
 obtain ⟨d,f,g⟩:=e;exact ⟨d,zAk f i,g⟩
def RankV.keep {F gt b w w'} (c:RankV gt b w) (j:Keep F w w') (i:gt < w.heap.size) (g:¬F gt):RankV gt b w':=by
 obtain ⟨d,e,f⟩:=c;exact ⟨d,e,(j.cell (p:=⟨gt,3,none⟩) i g).trans f⟩
def aHg {gt g bs f} (c) {w} (e:TreeAt w gt bs) (p:f<=bs.length) (n:HtB g bs.length):
 Calls prog 220 #[gt,(f:Int),.bool c] w λi w'=>i=.returned (.int .i64 ((bs.take f).count c:Nat))/\VisK (λc=>c=gt) w w'/\RankV gt (g+1) w':=by
 obtain ⟨o,rfl,e⟩:=e;refine (aHh c e p).mono ?_;rintro i w' ⟨j,k,l⟩;exact ⟨j,k,l.mono (Nat.succ_le_succ (e.ht n))⟩
@[irreducible] def wcells (b:Nat->Value) (q r:Int):Array Value:=#[b 0,b 1,b 2,b 3,b 4,b 5,b 6,b 7,b 8,.int .i64 q,.int .i64 r]
def cK (b:Nat->Value) (c e):(wcells b c e)[0]?=some (b 0)/\(wcells b c e)[1]?=some (b 1)/\(wcells b c e)[2]?=some (b 2)/\(wcells b c e)[3]?=some (b 3)/\(wcells b c e)[4]?=some (b 4)/\(wcells b c e)[5]?=some (b 5)/\(wcells b c e)[6]?=some (b 6)/\(wcells b c e)[7]?=some (b 7)/\(wcells b c e)[8]?=some (b 8)/\(wcells b c e)[9]?=some (.int .i64 c)/\(wcells b c e)[10]?=some (.int .i64 e):=by
 unfold wcells;exact ⟨rfl,rfl,rfl,rfl,rfl,rfl,rfl,rfl,rfl,rfl,rfl⟩
def eS (b:Nat->Value) (c f e):(wcells b c f).setIfInBounds 10 (.int .i64 e)=wcells b c e:=by
 unfold wcells;rfl
def vZ (b:Nat->Value) (c e) {i} (s:i < 9):(wcells b c e)[i]?=some (b i):=by
 obtain ⟨f,g,j,k,l,n,p,q,r,_⟩:=cK b c e;rcases i with _ | _ | _ | _ | _ | _ | _ | _ | _ | i
 all_goals first | assumption | omega
def aF0 (c:Nat->Value) (f i) {b} (j:b < 9) (g):(wcells c f i).setIfInBounds b g=wcells (λe=>if e=b then g else c e) f i:=by
 unfold wcells;rcases b with _ | _ | _ | _ | _ | _ | _ | _ | _ | b
 all_goals first | rfl | omega
def Vis.Q {w w' f} {e:Nat->Value} {g i} (j:Vis w w') (k:Bk w f 191 (wcells e g i)):∃c,Bk w' f 191 (wcells e g c):=by
 rcases j.bu k with b |⟨c,b⟩;exact ⟨i,b⟩;rw [eS] at b;exact ⟨c,b⟩
def aNw {gt l gk f c:Nat} (lv x:Int) {k bs} {e:Nat} {b w} (ht:TreeAt w gt bs) (i:Bk w gk 3 #[(e:Int)]) (g:Bk w f 4 #[.bool b]) (p:Bk w c 3 #[k]) (u:e<=bs.length) (s:HtB l bs.length):
 Calls prog 219 #[.agg #[gt,(lv:Int),(x:Int)],gk,f,c] w λn w'=>n=.returned (.tuple #[])/\
  ∃w1,VisK (λb=>b=gt) w w1/\Bk w1 c 3 #[k]/\RankV gt (l+1) w1/\w'=w1.setCell c (.int .i64 ((bs.take e).count b:Nat)):=by
 have y:w.cell? gk=some (.int .i64 e):=(i.cell 0).trans rfl;have z:w.cell? f=some (.bool b):=(g.cell 0).trans rfl;have C:=i.lt;have D:=g.lt;have E:=p.lt;clear i g;go_enter func219,ntmps219;go_wp2_with fail;refine (aHg b (ht.below (bR.alloc nL _)) u s).mono ?_;rintro n w1 ⟨rfl,q,v⟩;have r:VisK (λb=>b=gt) w w1:=(kc (bR.alloc nL _)).trans q;have j:=r.1.d p dC dC;have A:w1.cell? c=some k:=(j.cell 0).trans rfl;have B:=j.frozen 0;clear q;go_wp2_with fail;go_end0;exact ⟨rfl,w1,r,j,v,rfl⟩
def Vis.bo {w w' e} {f:Nat->Value} {i p j} (b:Keep (λc=>c=e) w w') (k:Bk w e 191 (wcells f i p)) (l:Bk w' e 191 (wcells f i j)):Vis w w':=by
 refine ⟨b.os,b.tape,b.output,b.size,λc n _=>?_⟩;by_cases g:c=e;subst g;exact .inr (.inr ⟨_,j,k,by rw [eS];exact l⟩);exact .inl (b.block c n g)
def vN {y b gt:Nat} {K s} {S:Nat->Value} {n:Int} {lv r:Int} {w} {q:World->Int->Int->Prop} (ac:∀s w,(callFunc y s).run prog w=.ok (.enter y s) w) (C:Calls prog y s (w.alloc (.cells #[gt,(lv:Int),(r:Int)] 194)) λu e=>u=.returned (.tuple #[])/\
 ∃c i:Int,(Bk e b 191 (wcells S n c)/\Bk e w.heap.size 194 #[gt,(lv:Int),(r:Int)]/\gt < e.heap.size/\gt≠b/\e.cell? ⟨gt,3,none⟩=some (.int .i64 i))/\q e c i) (ab:#[.agg #[gt,(lv:Int),(r:Int)]]++K=s:=by simp):
 Calls prog 161 #[b,.agg #[gt,(lv:Int),(r:Int)],.func (.func y) #[] K] w λu w'=>u=.returned (.tuple #[])/\
  ∃e c i,q e c i/\Bk e b 191 (wcells S n c)/\Keep (λg=>g=b) e w'/\Bk w' b 191 (wcells S n (IntKind.i64.wrap (c+i))):=by
 obtain ⟨o,D⟩:=eqx (Obj.cells #[gt,(lv:Int),(r:Int)] 194);rw [D] at C;obtain ⟨I,R⟩:=hqq2 C D;clear C D;go_enter func161,ntmps161;go_wp2_with fail;rw [R.out];refine I.mono ?_;rintro u e ⟨rfl,c,i,⟨E,z,a0,Z,N⟩,M⟩;have ad:=z.lt;have Y:=Bk.ne E z dC;obtain ⟨J,U,V,T⟩:=hqq4 E z N M;clear E z N M I;go_wp2_with fail;refine wp_region_any kR<|bM (pJ:=(λ_ A=>Bk A b 191 (wcells S n (IntKind.i64.wrap (c+i))))) [9,10,11,12,13,14,15,16,17,18] (λg=>g=b) 10 [3,10] [is b,is b,is (.pointer (some ⟨b,10,none⟩)),is (.int .i64 c),is (.pointer (some w.heap.size)),is gt,is (.int .i64 i),is (.int .i64 (IntKind.i64.wrap (c+i))),is b,is (.pointer (some ⟨b,10,none⟩)),cO] _ rfl kR kR (J) (λA af l _ X=>kf l X l.lt) (λ_ _ _ l a1=>kf l a1 l.lt) tA1 ?_ ?_
 .refine aL<|pH3 0 (.pointer (some b))<|pV3 0 9<|pV3 1 10<|sC3 (λ_ k _ B _ _ _ j _ _ _ v=>?_) ?_
  .have x:=B rfl;have a5:_=_:=j 2 11 kR rfl;have a3:k.cell? ⟨b,10,none⟩=some (.int .i64 c):=(x.cell 10).trans (cK _ _ _).2.2.2.2.2.2.2.2.2.2;go_simp;exact kq v rfl
  refine pH3 4 (.pointer (some w.heap.size))<|pL3 4 13 (λk f=>have f:Keep (λg=>g=b) e k:=kD f;(((f.d U (λl=>Y (show w.heap.size=b from l).symm)).cell 0).trans rfl:k.cell? ⟨w.heap.size,0,none⟩=some (.pointer (some gt)))) ?_;refine sC3 (λ_ k f _ _ _ _ j _ _ _ v=>?_) ?_
  .replace f:Keep (λg=>g=b) e k:=kD f;have a6:_=_:=j 5 14 kR rfl;go_simp;refine (aAX ((f.cell a0 Z).trans V)).mono ?_;rintro u ag ⟨rfl,W⟩;exact v _ _ (aE W) rfl
  refine pW3 3 12 6 15<|pV3 0 9<|pV3 8 17<|sC3 (λ_ k _ B _ _ _ j _ _ _ v=>?_) ?_
  .have x:=B rfl;have a8:_=_:=j 9 18 kR rfl;have a7:_=_:=j 7 16 kR rfl;have a4:k.cell? ⟨b,10,none⟩=some (.int .i64 c):=(x.cell 10).trans (cK _ _ _).2.2.2.2.2.2.2.2.2.2;have aa:=x.frozen 10;go_simp;refine v (.bool true) _ (aW (ka (F:=λg=>g=b) (ke _ _) (p:=⟨b,10,none⟩) (.inl rfl) _)) ?_;rw [<-eS S n c];exact x.set 10 _
  exact aB
 .intro a9 O f j L;replace f:Keep (λg=>g=b) e O:=kD f;obtain ⟨ae,H⟩:∃a2,(λ_ A=>Bk A b 191 (wcells S n (IntKind.i64.wrap (c+i)))) a2 O:=L 10 dC;simp only [zqq];clear j L;obtain ⟨P,Q⟩:=hqq2 H f;clear H f;go_wp2_with fail;go_end0;exact ⟨rfl,e,c,i,T,J,Q,P⟩
def aND {g gt E gk I c:Nat} {x:Nat->Value} {A B:Int} (lv i:Int) {ag bs} {f:Nat} {b w} (k:Bk w g 191 (wcells x A B)) (ht:TreeAt w gt bs) (j:Bk w gk 3 #[(f:Int)]) (K:Bk w I 4 #[.bool b]) (D:Bk w c 3 #[ag]) (a7:f<=bs.length) (a2:HtB E bs.length):
 Calls prog 161 #[g,.agg #[gt,(lv:Int),(i:Int)],.func (.func 219) #[] #[gk,I,c]] w λe w'=>e=.returned (.tuple #[])/\
  VisF (λb=>b=c) w w'/\Keep (λb=>b=g∨b=gt∨b=c) w w'/\Bk w' c 3 #[.int .i64 ((bs.take f).count b:Nat)]/\∃d:Nat,d<=E+1/\Bk w' g 191 (wcells x A (IntKind.i64.wrap (B+d))):=by
 have u:=(kg w.heap.size w).alloc nL (.cells #[gt,(lv:Int),(i:Int)] 194);have a9:=kd w 194 #[gt,(lv:Int),(i:Int)];have ai:=j.lt;have aj:=K.lt;have ak:=D.lt;have ae:=k.lt;have af:=Bk.ne D k dC;have Y:=j;have H:=k;clear j k;have a4:=aNw lv i (ht.below u) (Y.alloc _) (K.alloc _) (D.alloc _) a7 a2;refine (vN (S:=x) (n:=A) (q:=λy l r=>B=l/\(∃d:Nat,d<=E+1/\(d:Int)=r)/\VisF (λb=>b=c) w y/\Keep (λb=>b=g∨b=gt∨b=c) w y/\Bk y c 3 #[.int .i64 ((bs.take f).count b:Nat)]) (mM func219 kR kR) (a4.mono ?_)).mono ?_
 rotate_left
 rintro e w' ⟨rfl,y,l,r,⟨rfl,⟨d,C,rfl⟩,a1,z,J⟩,k,j,W⟩;exact ⟨rfl,VisF.trans a1 (VisF.C (Vis.bo j k W)),z.trans (j.mono λb _ e=>.inl e),j.d J (λe=>Bk.ne k J dC (show c=g from e).symm),d,C,W⟩;rintro e al ⟨rfl,w1,v,P,R,rfl⟩;have M:gt≠g:=by rintro rfl;obtain ⟨_,z⟩:=ht.a;exact absurd (aU z H).1 dC
 obtain ⟨l,ab,ad⟩:∃l,B=l/\Bk w1 g 191 (wcells x A l):=⟨B,rfl,v.2.d (H.below u ae) (λe=>M (show g=gt from e).symm)⟩;have a8:c≠gt:=by rintro rfl;obtain ⟨_,z⟩:=ht.a;exact absurd (aU z D).1 dC
 obtain ⟨d,a5,C⟩:=R.keep (F:=λb=>b=c) (ka (F:=λb=>b=c) (ke _ _) (p:=c) (.inl rfl) (.int .i64 ((bs.take f).count b:Nat))) (zAl ht.lt (zAk u.size v.1.size)) (λe=>a8 (show gt=c from e).symm);clear R;have X:=ad.m (p:=c) (λs=>af s.symm) (.int .i64 ((bs.take f).count b:Nat));have aa:=ht.b ((kb u).trans v.1);have U:TreeAt (w1.setCell c (.int .i64 ((bs.take f).count b:Nat))) gt bs:=aa.same λZ t ah N s=>s.m (λe=>by
  have a0:Z=c:=e;subst a0;rw [<-(aU P s).1] at N;exact absurd N dC) _
 obtain ⟨r,ac,V⟩:∃r:Int,(d:Int)=r/\(w1.setCell c (.int .i64 ((bs.take f).count b:Nat))).cell? ⟨gt,3,none⟩=some (.int .i64 r):=⟨_,rfl,C⟩;clear C;have T:=(v.1.d a9 dC dC).m (p:=c) (λs=>absurd (show w.heap.size=c from s) oM) (.int .i64 ((bs.take f).count b:Nat));have Q:=P.set 0 (.int .i64 ((bs.take f).count b:Nat));have L:VisF (λb=>b=c) w (w1.setCell c (.int .i64 ((bs.take f).count b:Nat))):=VisF.put (F:=λb=>b=c) (VisF.C ((kb u).trans v.1)) (p:=c) (.inl rfl) _;have O:Keep (λb=>b=g∨b=gt∨b=c) w (w1.setCell c (.int .i64 ((bs.take f).count b:Nat))):=ka (F:=λb=>b=g∨b=gt∨b=c) ((kF u).trans (v.2.mono λb _ e=>.inr (.inl e))) (p:=c) (.inl (.inr (.inr rfl))) _;obtain ⟨y,a3⟩:=eqx (w1.setCell c (.int .i64 ((bs.take f).count b:Nat)));rw [a3] at X U V T Q L O⊢;have a6:gt≠g:=M;exact ⟨rfl,l,r,⟨X,T,U.lt,a6,V⟩,ab,⟨d,a5,ac⟩,L,O,Q⟩
def aFi {gv gt H} {S:Nat->Value} {n E} (lv e) {bs k} (b) {w} (j:Bk w gv 191 (wcells S n E)) (ht:TreeAt w gt bs) (U:k<=bs.length) (R:HtB H bs.length):
 Calls prog 164 #[gv,.agg #[gt,(lv:Int),(e:Int)],(k:Int),.bool b] w λc w'=>c=.returned (.int .i64 ((bs.take k).count b:Nat))/\VisK (λb=>b=gv∨b=gt) w w'/\∃d:Nat,d<=H+1/\Bk w' gv 191 (wcells S n (IntKind.i64.wrap (E+d))):=by
 have W:∀(q:Fn) (first p:Array Value) (w:World),(Instr.makeFunc q first p).run prog w=.ok (.func q first p) w:=λ_ _ _ _=>rfl;obtain ⟨i,g⟩:=eqx ((((w.alloc (.cells #[gt,(lv:Int),(e:Int)] 194)).alloc (.cells #[(k:Int)] 3)).alloc (.cells #[.bool b] 4)).alloc (.cells #[o0] 3));have hB:Below w.heap.size w i:=by rw [<-g];exact (((bR.alloc nL _).alloc zs _).alloc zt _).alloc zt _
 have r:Bk i (w.heap.size+1) 3 #[(k:Int)]:=by rw [<-g];have f:=kd (w.alloc (.cells #[gt,(lv:Int),(e:Int)] 194)) 3 #[(k:Int)];rw [show (w.alloc (.cells #[gt,(lv:Int),(e:Int)] 194)).heap.size=w.heap.size+1 from by simp] at f;exact (f.alloc _).alloc _
 have s:Bk i (w.heap.size+1+1) 4 #[.bool b]:=by rw [<-g];have f:=kd ((w.alloc (.cells #[gt,(lv:Int),(e:Int)] 194)).alloc (.cells #[(k:Int)] 3)) 4 #[.bool b];rw [show ((w.alloc (.cells #[gt,(lv:Int),(e:Int)] 194)).alloc (.cells #[(k:Int)] 3)).heap.size=w.heap.size+1+1 from by simp] at f;exact f.alloc _
 have u:Bk i (w.heap.size+1+1+1) 3 #[o0]:=by rw [<-g];have f:=kd (((w.alloc (.cells #[gt,(lv:Int),(e:Int)] 194)).alloc (.cells #[(k:Int)] 3)).alloc (.cells #[.bool b] 4)) 3 #[o0];rw [show (((w.alloc (.cells #[gt,(lv:Int),(e:Int)] 194)).alloc (.cells #[(k:Int)] 3)).alloc (.cells #[.bool b] 4)).heap.size=w.heap.size+1+1+1 from by simp] at f;exact f
 have D:=j.below hB j.lt;have A:=ht.below hB;obtain ⟨Q,O,I,J,K,N,l⟩:=hqq7 D A r s u g hB;clear j ht D A r s u g hB;go_enter func164,ntmps164;go_wp2_with fail;rw [N.out];refine (aND lv e Q O I J K U R).mono ?_;rintro c w1 ⟨rfl,B,y,z,C⟩;have P:=lhd C;clear C;have v:Vis w w1:=VisF.ak (VisF.trans (VisF.C (kb l)) B) (λb T c=>by omega);have x:Keep (λb=>b=gv∨b=gt) w w1:=(kF l).trans' y (λb T c=>by
  rcases c with c | c | c;exact .inl c;exact .inr c
  .omega)
 have V:w1.cell? ⟨w.heap.size+1+1+1,0,none⟩=some (.int .i64 ((bs.take k).count b:Nat)):=(z.cell 0).trans rfl;obtain ⟨L,M⟩:=hqq2 v x;clear B y z v x;go_wp2_with fail;go_ret;exact ⟨rfl,⟨L,M⟩,P⟩
def tN {gv gt} {S:Nat->Value} {n v} (lv e) {bs k} (b) {w} (j:Bk w gv 191 (wcells S n v)) (ht:TreeAt w gt bs) (i:k<=bs.length):
 Calls prog 164 #[gv,.agg #[gt,(lv:Int),(e:Int)],(k:Int),.bool b] w λc w'=>c=.returned (.int .i64 ((bs.take k).count b:Nat))/\VisK (λb=>b=gv∨b=gt) w w':=
 (aFi lv e b j ht i (aH2 ht.le)).mono λc w' ⟨f,g,_⟩=>⟨f,g⟩
def tD (e:List Nat):∀b∈e.map sv,b.oneCell'=true:=by
 intro b c;obtain ⟨f,_,rfl⟩:=zAy.1 c;rfl
def dQ (t:List UInt8):List Nat:=t.map (λb=>b.toNat+1)
def aG (t:List UInt8):List Nat:=dQ t++ [0]
def aO (t):(aG t).length=t.length+1:=by simp [aG,dQ]
def eX (t):∀e∈aG t,e < 257:=by
 intro e c;unfold aG dQ at c;rcases zCp.1 c with b | b;obtain ⟨f,_,rfl⟩:=zAy.1 b;have:=f.toNat_lt;omega;simp at b;omega
def rZ (b:UInt8) (w:World):
 Calls prog 116 #[.int .u8 b.toNat] w λc w'=>c=.returned (.int .i64 (b.toNat+1:Nat))/\Below w.heap.size w w':=by
 have f:=b.toNat_lt;have e:IntKind.i64.wrap b.toNat=(b.toNat:Int):=zu
 go_enter func116,ntmps116;go_wp2;go_ret;exact ⟨fM oM,kg _ _⟩
def aA2 {gs:Nat} (af:Nat) {A} {m c B:Nat} {t w} (v:Bk w gs 22 #[.slice A m c]) (u:Rd w B 1 A m (t.map bv)) (hB:B<=w.heap.size) (ah:m<=1000):
 Calls prog 96 #[.slice (some gs) 1 1] w λH w'=>∃i k,H=.returned (.slice i (m+1) k)/\Made w' w.heap.size 3 1 i (m+1) k ((aG t).map sv)/\Below w.heap.size w w':=by
 obtain ⟨V,L,S,T,U⟩:=info_parts gI;have R:t.length=m:=by simpa using u.1
 have a1:w.cell? gs=some (.slice A m c):=(v.cell 0).trans rfl;have a4:=v.lt;obtain ⟨a0,D⟩:=hqq2 (u.mono hB) R;clear v u R;go_enter func96,ntmps96;go_wp2_with fail;go_loopw [3,10] (λz g wr=>∃b:Nat,b<=1/\g=.int .i64 b/\wr.ownsRow w.heap.size 3 1 z (if b=0 then 0 else m) ((if b=0 then [] else dQ t).map sv)/\Below w.heap.size w wr) (λ_ g _=>1 -(intOf g).toNat)
 case atStart=>exact ⟨0,by omega,rfl,ki _ _ _ _,kg _ _⟩
 case round=>
  obtain ⟨b,a5,rfl,e,f⟩:=hrel;have n:=f.size;rcases b with _ | b
  .have ae:wr.cell? gs=some (.slice A m c):=(f.cell a4).trans a1;obtain ⟨j,Y⟩:=hqq2 e f;clear e f;go_wp2_with fail;obtain ⟨E,a2⟩:∃E,E=wr:=⟨_,rfl⟩;subst a2;go_loopw [3,16] (λz g W=>∃b:Nat,b<=m/\g=.int .i64 b/\W.ownsRow w.heap.size 3 1 z b ((dQ (t.take b)).map sv)/\Below w.heap.size w W) (λ_ g _=>m -(intOf g).toNat)
   case atStart=>exact ⟨0,by omega,rfl,j,Y⟩
   case round=>
    obtain ⟨b,a5,rfl,e,f⟩:=hrel;have n:=f.size;by_cases N:b < m
    .have a7:b < t.length:=(by rw [D.out];exact N);obtain ⟨p,y⟩:∃p,t[b]?=some p:=⟨t[b],zAa a7⟩;obtain ⟨ad,ai,aj,rfl,ag,x,a3⟩:=(a0.below f).get N;rw [zAf,y] at x;simp at x;subst x;have Q:t.take (b+1)=t.take b++ [p]:=(by rw [zAv,y];rfl);unfold bv at a3;obtain ⟨X,q⟩:=hqq2 Q e;clear Q y e;go_wp2_with fail;refine (rZ p _).mono ?_;rintro H w1 ⟨rfl,J⟩;have O:=aP q J;have K:=f.trans (J.mono n);have P:=K.size;have C:=lhd O;clear O;go_wp2_with (at_builtin;refine bP _ rfl (.tmp 20) (.tmp 23) _ rfl w.heap.size 3 V (.int .i64 0) 1 8 underlying27 L S T U rfl dC _ b _ rfl C rfl rfl (by simp [Value.oneCell']) zx oM P ?_;intro ab ac s l aa I);have r:=aX K C l P;clear l I;go_roundw
     case rel=>refine ⟨b+1,by omega,by go_num,?_,r⟩;rw [X.out,dQ,zAz,zAz];exact s
     case measure=>exact zr
    .have a8:b=m:=oM;subst a8;rw [zAg (by rw [D.out];omega)] at e;have q:=lhd e;clear e;go_wp2_with fail;go_roundw
     case rel=>exact ⟨1,by omega,by go_num,q,f⟩
     case measure=>simp [intOf]
  .have a6:b=0:=oM;subst a6;rw [zBw oM,zBw oM] at e;have j:=lhd e;have M:(aG t).map sv=(dQ t).map sv++ [.int .i64 0]:=(by simp [aG,sv]);have Z:=lhd M;clear e M;go_wp2_with (at_builtin;refine bP _ rfl (.tmp 27) (.tmp 28) _ rfl w.heap.size 3 V (.int .i64 0) 1 8 underlying27 L S T U rfl dC _ m _ rfl j rfl rfl (by simp [Value.oneCell']) zx oM n ?_;intro ab ac s l aa I);have r:=aX f j l n;obtain ⟨i,k,rfl,a9⟩:=aR s;go_ret;exact ⟨i,k,rfl,by rw [Z.out];exact a9,r⟩
def aBV {A:Option Addr} {n:Nat} (b:Nat) {B:Nat} {l:List Nat} {w:World} (g:Rd w B 1 A n (l.map sv)) (hB:B<=w.heap.size) (E:n<=1073741824):
 Calls prog 97 #[.slice A n b] w λk w'=>∃e f,k=.returned (.slice e n f)/\Made w' w.heap.size 3 1 e n f (l.map sv)/\Below w.heap.size w w':=by
 obtain ⟨C,r,x,y,z⟩:=info_parts gI;have H:∀(w:World) (a:Option Addr) (n b:Nat),(binOp .eql 27 (.slice a n b) (.slice none 0 0)).run prog w=.ok (.bool a.isNone) w:=λw a n b=>Lib.run_eql_slice_nil w _ _ a n b _ _ underlying27;rcases A with _ | a
 .have v:n=0:=by
   rcases zBa n with c | c;exact c
   .obtain ⟨_,_,c,_⟩:=g.2 c;cases c
  subst v;have s:l= []:=(by have:=g.1;simp only [zBc,zFH] at this;exact zBk this);subst s;go_enter func97,ntmps97;go_wp2;go_ret;exact ⟨none,0,rfl,⟨ki _ _ _ _,Rd.nil _ _ _ _,zAs _,zAp _⟩,kg _ _⟩
 .have j:=g;clear g;go_enter func97,ntmps97;go_wp2_with (at_builtin;refine bE _ rfl (.tmp 5) (.tmp 6) _ rfl w.heap.size 3 C (.int .i64 0) 1 8 underlying27 r x y z rfl dC (.slice (some w.heap.size) 0 0) 0 [] rfl (kX w 3 1) w.heap.size (some a) n b _ rfl ((j.mono hB).alloc nL _) (tD _) zx oM zs ?_;intro I J i q D);have p:=aX ((kg w.heap.size w).alloc nL _) (kX w 3 1) q zs;rw [zBi,zDH] at i;obtain ⟨e,f,rfl,u⟩:=aR i;go_wp2;go_ret;exact ⟨e,f,rfl,u,p⟩
end
section
def aN (b:List Nat) (c:Nat):Int:=match b[c]? with
 | some e=>(e:Int)
 | none=>-1
def aNQ {b c} (e:c < b.length):aN b c=(b[c]:Int):=by
 unfold aN;rw [zAa e]
def mG {b} {c x:Nat} (e:b[c]?=some x):aN b c=(x:Int):=by
 unfold aN;rw [e]
def pC {l p} (b:l.length<=p):aN l p=-1:=by
 unfold aN;rw [zBg b]
def lB {l p} (b:p < l.length):0<=aN l p:=by
 rw [aNQ b];omega
section
variable (a : Nat -> Int)
def eqW (w b c:Nat):Prop:=∀m,m < w->a (b+m)=a (c+m)
def ltW (w c e:Nat):Prop:=∃b,b < w/\(∀m,m < b->a (c+m)=a (e+m))/\a (c+b) < a (e+b)
variable {a}
def eqW.symm {w b c} (e:eqW a w b c):eqW a w c b:=λm f=>(e m f).symm
def eqW.trans {w c e f} (g:eqW a w c e) (i:eqW a w e f):eqW a w c f:=λm b=>(g m b).trans (i m b)
def eqW.refl (w b):eqW a w b b:=λ_ _=>rfl
def rM (w e f):ltW a w e f∨eqW a w e f∨ltW a w f e:=by
 induction w with
 | zero=>exact .inr (.inl λm j=>absurd j oM)
 | succ w k=>
  rcases k with ⟨i,b,c⟩| g |⟨i,b,c⟩;exact .inl ⟨i,by omega,c⟩;rcases Int.lt_trichotomy (a (e+w)) (a (f+w)) with b | b | b;exact .inl ⟨w,by omega,g,b⟩;refine .inr (.inl λm j=>?_);rcases zBe m w with c | c;exact g m c;have:m=w:=oM;subst this;exact b;exact .inr (.inr ⟨w,by omega,g.symm,b⟩);exact .inr (.inr ⟨i,by omega,c⟩)
def ltW.not_eq {w b c} (e:ltW a w b c):¬eqW a w b c:=by
 obtain ⟨i,f,j,k⟩:=e;intro g;have:=g i f;omega
def ltW.trans {w j k l} (r:ltW a w j k) (s:ltW a w k l):ltW a w j l:=by
 obtain ⟨e,n,f,p⟩:=r;obtain ⟨i,u,g,q⟩:=s;rcases zDD e i with c | c | c;exact ⟨e,n,λm b=>(f m b).trans (g m oM),by rw [<-g e c];exact p⟩;subst c;exact ⟨e,n,λm b=>(f m b).trans (g m b),Int.lt_trans p q⟩;exact ⟨i,u,λm b=>(f m oM).trans (g m b),by rw [f i c];exact q⟩
def ltW.irrefl {w b} (c:ltW a w b b):False:=c.not_eq (eqW.refl _ _)
def ltW.asymm {w b c} (e:ltW a w b c) (f:ltW a w c b):False:=(e.trans f).irrefl
def ltW.eq_right {w c e f} (j:ltW a w c e) (b:eqW a w e f):ltW a w c f:=by
 obtain ⟨g,i,l,n⟩:=j;exact ⟨g,i,λm k=>(l m k).trans (b m oM),by rw [<-b g i];exact n⟩
def ltW.eq_left {w c e f} (b:eqW a w c e) (j:ltW a w e f):ltW a w c f:=by
 obtain ⟨g,i,l,n⟩:=j;exact ⟨g,i,λm k=>(b m oM).trans (l m k),by rw [b g i];exact n⟩
def ltW.b5 {w g c e} (f:ltW a w g c) (i:¬ltW a w e c):ltW a w g e:=by
 rcases rM (a:=a) w c e with b | b | b;exact f.trans b;exact f.eq_right b;exact absurd b i
def aGW (w c e):eqW a (w+w) c e↔eqW a w c e/\eqW a w (c+w) (e+w):=by
 constructor
 .intro b;refine ⟨λm f=>b m oM,λm f=>?_⟩;have:=b (w+m) oM;rwa [<-zDp,<-zDp] at this
 .intro ⟨g,i⟩ m f;rcases zBe m w with b | b;exact g m b
  .have:=i (m - w) oM;rwa [show c+w+(m - w)=c+m by omega,show e+w+(m - w)=e+m by omega] at this
def aGJ (w c e):ltW a (w+w) c e↔ltW a w c e∨(eqW a w c e/\ltW a w (c+w) (e+w)):=by
 constructor
 .intro ⟨b,j,f,i⟩;rcases zBe b w with g | g;exact .inl ⟨b,g,f,i⟩
  .refine .inr ⟨λm k=>f m oM,b - w,by omega,λm k=>?_,?_⟩
   .have:=f (w+m) oM;rwa [<-zDp,<-zDp] at this
   .rwa [show c+w+(b - w)=c+b by omega,show e+w+(b - w)=e+b by omega]
 .rintro (⟨b,j,f,i⟩|⟨l,b,j,f,i⟩);exact ⟨b,by omega,f,i⟩
  .refine ⟨w+b,by omega,λm k=>?_,by rwa [<-zDp,<-zDp]⟩;rcases zBe m w with g | g;exact l m g
   .have:=f (m - w) oM;rwa [show c+w+(m - w)=c+m by omega,show e+w+(m - w)=e+m by omega] at this
def RankOk (a e:Nat->Int) (w:Nat):Prop:=∀b c,e b < e c↔ltW a w b c
def RankOk.eq {e:Nat->Int} {w} (g:RankOk a e w) (b c):e b=e c↔eqW a w b c:=by
 constructor;intro i;rcases rM (a:=a) w b c with f | f | f;have:=(g b c).2 f;omega;exact f;have:=(g c b).2 f;omega;intro i;have f:¬(e b < e c):=λj=>((g b c).1 j).not_eq i;have k:¬(e c < e b):=λj=>((g c b).1 j).not_eq i.symm;omega
def lV (b:Nat->Int) (w c e:Nat):Int:=if b c≠b e then b c - b e else b (c+w) - b (e+w)
def zF {j:Nat->Int} {w} (f:RankOk a j w) (c e):lV j w c e < 0↔ltW a (w+w) c e:=by
 unfold lV;rw [aGJ];by_cases i:j c=j e
 .rw [zBw (by simpa using i)];have k:¬ltW a w c e:=λn=>by have:=(f c e).2 n;omega
  have l:=(f.eq c e).1 i;have g:=f (c+w) (e+w);constructor;intro b;exact .inr ⟨l,g.1 oM⟩;rintro (b |⟨_,b⟩);exact absurd b k;have:=g.2 b;omega
 rw [zBx i];have g:=f c e;constructor;intro b;exact .inl (g.1 oM);rintro (b |⟨b,_⟩);have:=g.2 b;omega;exact absurd ((f.eq c e).2 b) i
def aMS {e:Nat->Int} {w} (i:RankOk a e w) (b c):lV e w b c=0↔eqW a (w+w) b c:=by
 unfold lV;rw [aGW];by_cases f:e b=e c;rw [zBw (by simpa using f)];constructor;intro g;exact ⟨(i.eq b c).1 f,(i.eq _ _).1 oM⟩;intro ⟨_,g⟩;have:=(i.eq _ _).2 g;omega;rw [zBx f];constructor;intro g;exact absurd (show e b=e c by omega) f;intro ⟨g,_⟩;exact absurd ((i.eq b c).2 g) f
def cN (o:Nat->Nat->Int) (b:Nat->Nat):Nat->Nat
 | 0=>0
 | i+1=>cN o b i+(if o (b i) (b (i+1))≠0 then 1 else 0)
def aNp (o:Nat->Nat->Int) (b c):cN o b c<=cN o b (c+1)/\cN o b (c+1)<=cN o b c+1:=by
 show cN o b c<=cN o b c+_/\cN o b c+_<=cN o b c+1;split <;> omega
def yC (o:Nat->Nat->Int) (b c d):cN o b c<=cN o b (c+d)/\cN o b (c+d)<=cN o b c+d:=by
 induction d with
 | zero=>exact ⟨zAs _,zAs _⟩
 | succ d e=>
  have:=aNp o b (c+d);rw [<-zDp];omega
def aDo {o:Nat->Nat->Int} {c w q} (l:∀b p,o b p=0↔eqW a w b p) (u:∀b,b+1 < q->¬ltW a w (c (b+1)) (c b)) (b d) (y:b+d < q):
 (cN o c b < cN o c (b+d)↔ltW a w (c b) (c (b+d)))/\¬ltW a w (c (b+d)) (c b):=by
 induction d with
 | zero=>exact ⟨⟨λe=>absurd e zs,λe=>e.irrefl.elim⟩,λe=>e.irrefl⟩
 | succ d v=>
  obtain ⟨r,i⟩:=v oM;have j:=u (b+d) oM;have x:=yC o c b d;have g:cN o c (b+(d+1))=cN o c (b+d)+(if o (c (b+d)) (c (b+d+1))≠0 then 1 else 0):=rfl;rw [show b+(d+1)=b+d+1 from rfl] at g⊢;have s:¬ltW a w (c (b+d+1)) (c b):=λe=>j (e.b5 i);refine ⟨?_,s⟩;by_cases f:o (c (b+d)) (c (b+d+1))=0;have n:=(l _ _).1 f;rw [g,zBw (by simpa using f),zBq,r];exact ⟨λe=>e.eq_right n,λe=>e.eq_right n.symm⟩;rw [g,zBx f];refine ⟨λ_=>?_,λ_=>by omega⟩;have k:ltW a w (c (b+d)) (c (b+d+1)):=(by rcases rM (a:=a) w (c (b+d)) (c (b+d+1)) with e | e | e;exact e;exact absurd ((l _ _).2 e) f;exact absurd e j);rcases rM (a:=a) w (c b) (c (b+d)) with e | e | e;exact e.trans k;exact ltW.eq_left e k;exact absurd e i
end
def aHP {l w b c} (n:l.length<=w) (i:b < l.length) (k:c < l.length) (j:b≠c):¬eqW (aN l) w b c:=by
 intro f;rcases zBe b c with g | g;have e:=f (l.length - c) oM;rw [pC (show l.length<=c+(l.length - c) by omega)] at e;have:=lB (l:=l) (p:=b+(l.length - c)) oM;omega;have e:=f (l.length - b) oM;rw [pC (show l.length<=b+(l.length - b) by omega)] at e;have:=lB (l:=l) (p:=c+(l.length - b)) oM;omega
def aIO {c i} {o:Nat->Nat->Int} {g w} (J:0 < w) (B:∀b e,o b e=0↔eqW (aN c) w b e) (C:∀b,b+1 < c.length->¬ltW (aN c) w (g (b+1)) (g b)) (s:i.length=c.length) (A:∀b,b < c.length->i[g b]?=some (cN o g b)) (D:∀f,f < c.length->∃b,b < c.length/\g b=f):RankOk (aN c) (aN i) w:=by
 have L:∀b e,b < c.length->e < c.length->(aN i (g b) < aN i (g e)↔ltW (aN c) w (g b) (g e)):=by intro b e x y;rw [mG (A b x),mG (A e y)];rcases zBe b e with H | H;have:=(aDo B C b (e - b) oM).1;rw [show b+(e - b)=e by omega] at this;rw [<-this];omega;have r:=aDo B C e (b - e) oM;rw [show e+(b - e)=b by omega] at r;have v:=(yC o g e (b - e)).1;rw [show e+(b - e)=b by omega] at v;exact ⟨λk=>absurd k oM,λk=>absurd k r.2⟩
 intro f n;rcases zBe f c.length with q | q;obtain ⟨b,x,rfl⟩:=D f q;rcases zBe n c.length with j | j;obtain ⟨e,y,rfl⟩:=D n j;exact L b e x y;have r:=lB (l:=i) (p:=g b) (by rw [s];exact q);have v:=pC (l:=i) (p:=n) (by rw [s];exact j);refine ⟨λk=>absurd k oM,λ⟨z,K,E,u⟩=>?_⟩;exfalso;have M:=lB (l:=c) (p:=g b) q;rcases z with _ | z;rw [zBq,zBq,pC j] at u;omega;have:=E 0 oM;rw [zBq,zBq,pC j] at this;omega;have v:=pC (l:=i) (p:=f) (by rw [s];exact q);rcases zBe n c.length with j | j;have r:=lB (l:=i) (p:=n) (by rw [s];exact j);refine ⟨λ_=>⟨0,J,λm I=>absurd I oM,?_⟩,λ_=>by omega⟩;rw [zBq,zBq,pC q];have:=lB (l:=c) (p:=n) j;omega;have r:=pC (l:=i) (p:=n) (by rw [s];exact j);refine ⟨λk=>absurd k oM,λ⟨z,K,E,u⟩=>?_⟩;rw [pC oM,pC oM] at u;exact absurd u oM
def aOw {a:Nat->Int} {o:Nat->Nat->Int} {b w c} (l:∀i j,o i j=0↔eqW a w i j) (n:∀i,i+1 < c->¬ltW a w (b (i+1)) (b i)) (u:0 < c) (s:cN o b (c - 1)=c - 1) {i j} (q:i < j) (r:j < c):ltW a w (b i) (b j):=by
 have f:=yC o b 0 i;have g:=yC o b i (j - i);have k:=yC o b j (c - 1 - j);have p:cN o b 0=0:=rfl;rw [zBi] at f;rw [show i+(j - i)=j by omega] at g;rw [show j+(c - 1 - j)=c - 1 by omega] at k;have e:=(aDo l n i (j - i) oM).1;rw [show i+(j - i)=j by omega] at e;exact e.1 oM
def aNq {o:Nat->Nat->Int} {c n} (e:∀b,b+1 < n->o (c b) (c (b+1))≠0) (b) (f:b < n):cN o c b=b:=by
 induction b with
 | zero=>rfl
 | succ b g=>
  show cN o c b+_=_;rw [zBx (e b f),g oM]
def aGu (b):RankOk (aN b) (aN b) 1:=by
 intro j k;constructor;intro c;exact ⟨0,by omega,λm f=>absurd f oM,c⟩;rintro ⟨g,i,_,e⟩;have:g=0:=oM;subst this;exact e
end
section
open Go.RowKit
structure OrdAt (W:World) (gw gn gr:Nat) (w n:Nat) (A:Option Addr) (c:Nat) (R:List Nat):Prop where
 wide:W.cell? gw=some (.int .i64 (w:Int))
 len:W.cell? gn=some (.int .i64 (n:Int))
 U:W.cell? gr=some (.slice A n c)
 rd:Rd W W.heap.size 1 A n (R.map sv)
def OrdAt.drewN {f k i j w l g c e} (b:OrdAt f k i j w l c g e) (n):OrdAt (f.drewN n) k i j w l c g e:=⟨b.wide,b.len,b.U,b.rd⟩
def OrdAt.at {j r p q w l n g i} (s:OrdAt j r p q w l g n i) {f} (v:f < l):∃(b c e:Nat),g=some ⟨b,c,none⟩/\i[f]?=some e/\j.cell? ⟨b,c+f,none⟩=some (.int .i64 e):=by
 obtain ⟨b,c,z,rfl,y,k,u⟩:=s.rd.get v;rw [zAf] at k;obtain ⟨e,x,rfl⟩:=zEF.1 k;exact ⟨b,c,e,rfl,x,u⟩
def aCB {gw gn gr w n c j R i W} (b:OrdAt W gw gn gr w n j c R) (D:w<=1000) (C:n<=1000) (B:i < n):
 Calls prog 98 #[(i:Int),gw,gn,gr] W λk w'=>k=.returned (.int .i64 (aN R (i+w)))/\∃s,w'=W.drewN s:=by
 have z:R.length=n:=by simpa using b.rd.1
 have v:=b.wide;have x:=b.len;have y:=b.U;by_cases q:i+w < n
 .have r:(i:Int)+w < n:=oM;obtain ⟨u,E,H,rfl,g,A⟩:=b.at q;have e:=mG g;have f:=lhd e;clear g b e;go_enter func98,ntmps98;go_wp2;go_ret;exact ⟨by rw [f.out];first | rfl | simp_all,0,rfl⟩
 .have r:¬((i:Int)+w < n):=oM;have e:=pC (l:=R) (p:=i+w) oM;have f:=lhd e;clear b e;go_enter func98,ntmps98;go_wp2;go_ret;exact ⟨by rw [f.out];rfl,0,rfl⟩
def aCA {gw gn gr:Nat} (K:Nat) {w n c:Nat} {A R} (f g:Nat) {W} (b:OrdAt W gw gn gr w n A c R) (a1:W.cell? K=some (.func (.func 98) #[] #[gw,gn,gr])) (N:w<=1000) (M:n<=1000) (r:∀V∈R,V<=1000) (O:f < n) (P:g < n):
 Calls prog 99 #[(f:Int),(g:Int),gr,K] W λk w'=>k=.returned (.int .i64 (lV (aN R) w f g))/\∃e,w'=W.drewN e:=by
 have Z:=b.U;have H:=b;obtain ⟨X,a6,p,L,x,a2⟩:=b.at O;obtain ⟨Y,a7,e,q,j,a3⟩:=b.at P;rw [L] at q;injection q with q;injection q with e1 e2;subst e1 e2;have a4:=r p (zAd x);have a5:=r e (zAd j);have I:=mG x;have J:=mG j;have s:∀l,-1<=aN R l/\aN R l<=1000:=by
  intro l;unfold aN;split
  .next z hz=>
   have:=r z (zAd hz);omega
  omega
 have b1:=s (f+w);have b2:=s (g+w);have v:lV (aN R) w f g=if (p:Int)≠(e:Int) then (p:Int) -e else aN R (f+w) - aN R (g+w):=by unfold lV;rw [I,J]
 obtain ⟨C,y⟩:=eqx (aN R (f+w));obtain ⟨D,B⟩:=eqx (aN R (g+w));rw [y,B] at v;rw [y] at b1;rw [B] at b2;rw [v];subst L;clear b x j I J s v r;by_cases S:p=e
 .subst S;rw [zBw zs];go_enter func99,ntmps99;go_wp2;go_quiet (fail);go_wp2;have T:∀m:Nat,Calls prog 98 #[(f:Int),gw,gn,gr] (W.drewN (nq+m)) λk E=>k=.returned (.int .i64 C)/\∃n,E=W.drewN (nq+n):=λm=>by have b:=aCB (gw:=gw) (gn:=gn) (gr:=gr) (w:=w) (n:=n) (c:=c) (R:=R) (i:=f) (W:=(W.drewN (nq+m))) (H.drewN _) N M O;rw [y] at b;exact b.mono λ_ _ ⟨u,e,j⟩=>⟨u,m+e,by rw [j,zEA,zDp]⟩
  have U:∀m:Nat,Calls prog 98 #[(g:Int),gw,gn,gr] (W.drewN (nq+m)) λk E=>k=.returned (.int .i64 D)/\∃n,E=W.drewN (nq+n):=λm=>by have b:=aCB (gw:=gw) (gn:=gn) (gr:=gr) (w:=w) (n:=n) (c:=c) (R:=R) (i:=g) (W:=(W.drewN (nq+m))) (H.drewN _) N M P;rw [B] at b;exact b.mono λ_ _ ⟨u,e,j⟩=>⟨u,m+e,by rw [j,zEA,zDp]⟩
  have a0:IntKind.i64.wrap (C - D)=C - D:=zu;go_quiet ((first |(with_reducible exact T _)|(with_reducible exact U _)));go_wp2;go_ret;exact ⟨fM (by first | omega | rfl),_,zEA _ _ _⟩
 .have Q:¬((p:Int)=e):=oM;rw [zBx Q];go_enter func99,ntmps99;go_wp2;go_quiet (fail);go_wp2;go_quiet (fail);go_wp2;go_ret;exact ⟨fM oM,_,zEA _ _ _⟩
end
section
open Go.RowKit Go Go.Sort
def sufLt (b:List Nat) (c e:Nat):Prop:=∃w,ltW (aN b) w c e
def aC8 {a:Nat->Int} {w w' b c} (e:ltW a w b c) (j:w<=w'):ltW a w' b c:=by
 obtain ⟨g,i,f⟩:=e;exact ⟨g,by omega,f⟩
def sufLt.asymm {e f g} (b:sufLt e f g) (c:sufLt e g f):False:=by
 obtain ⟨w,b⟩:=b;obtain ⟨w',c⟩:=c;exact (aC8 b (Nat.le_max_left w w')).asymm (aC8 c (Nat.le_max_right w w'))
def sufLt.trans {e f g i} (b:sufLt e f g) (c:sufLt e g i):sufLt e f i:=by
 obtain ⟨w,b⟩:=b;obtain ⟨w',c⟩:=c;exact ⟨_,(aC8 b (Nat.le_max_left w w')).trans (aC8 c (Nat.le_max_right w w'))⟩
def sufLt.dk {b e f} (g:e < b.length) (j:f < b.length) (i:e≠f):sufLt b e f∨sufLt b f e:=by
 rcases rM (a:=aN b) b.length e f with c | c | c;exact .inl ⟨_,c⟩;exact absurd c (aHP nL g j i);exact .inr ⟨_,c⟩
structure IsSuf (l rs:List Nat):Prop where
 perm:rs.Perm (List.range l.length)
 B:rs.Pairwise (sufLt l)
def IsSuf.len {b c} (e:IsSuf b c):c.length=b.length:=by simpa using e.perm.length_eq
def IsSuf.lt {b c} (e:IsSuf b c) {p} (f:p∈c):p < b.length:=by simpa using e.perm.mem_iff.1 f
def IsSuf.mem {b e} (f:IsSuf b e) {c} (g:c < b.length):c∈e:=f.perm.mem_iff.2 (by simpa using g)
def IsSuf.nodup {e b} (c:IsSuf e b):b.Nodup:=c.perm.nodup_iff.2 zDl
def IsSuf.unique {b f g} (c:IsSuf b f) (e:IsSuf b g):f=g:=by
 refine List.Perm.eq_of_pairwise (le:=sufLt b) ?_ c.B e.B (c.perm.trans e.perm.symm);intro a k _ _ i j;exact (i.asymm j).elim
def fS (m:Nat) (b:Fin (m+1)):Value:=.int .i64 (b.val:Nat)
def oC (m) (b:Fin (m+1)):(fS m b).oneCell'=true:=rfl
section
variable {α : Type} [Inhabited α] {enc : α -> Value} {w : World} {blk : Nat} {t : TypeId} {d d' : Array α}
def aES (d:Array α) (b) (c:b < d.size):d[b]! =d[b]:=getElem!_pos d b c
def aC1 (e:d'.size=d.size):putCells enc 0 d' (d.map enc)=d'.map enc:=by
 apply zGk
 .simp [putCells,e]
 .intro f g b;have c:f < d'.size:=(by simpa using b);simp [putCells,c,aES]
def aMB (b:Bk w blk t (d.map enc)) (g:d'.size=d.size) (c) (i:Array Obj):Bk (sortWorld enc w blk 0 c d' i) blk t (d'.map enc):=by
 have f:=b.lt;unfold Bk at b⊢;have e:(putRow enc (Sort.ahead w c) blk 0 d').heap[blk]?=some (.cells (d'.map enc) t (0,0)):=by show (w.heap.modify blk _)[blk]?=_;rw [zFZ,zBx rfl,b];simp only [zEq,onCells];rw [aC1 g]
 unfold sortWorld;rw [heap_grow_old _ _ (by show blk < (w.heap.modify blk _).size;simpa using f)];exact e
def kV (l:blk < w.heap.size) (k j) (d':Array α) (c:Array Obj):Keep (λe=>e=blk) w (sortWorld enc w blk k j d' c):=by
 refine ⟨rfl,rfl,rfl,?_,λb g i=>?_⟩
 .show w.heap.size<=((w.heap.modify blk _)++c).size;simp
 .unfold sortWorld;rw [heap_grow_old _ _ (by show b < (w.heap.modify blk _).size;simpa using g)];show (w.heap.modify blk _)[b]?=_;rw [zFZ,zBw (λf=>i f.symm)]
def aL1 (b:Bk w blk t (d.map enc)):Holds enc w blk 0 d:=by
 intro e c;rw [zBi];refine ⟨?_,b.frozen e⟩;rw [b.cell];simp [c,aES]
end
def aAi {α:Type} [Inhabited α] {d d':Array α} (b:PermIn 0 d.size d d'):d'.toList.Perm d.toList:=by
 have f:=b.2.2;have c:d'.extract 0 d.size=d':=by rw [<-b.1];exact Array.extract_size
 have e:d.extract 0 d.size=d:=Array.extract_size;rwa [c,e] at f
def eU {m:Nat} (d:Array (Fin (m+1))) (b:Nat):Nat:=(d[b]!).val
structure RowsOk (m:Nat) (d:Array (Fin (m+1))):Prop where
 size:d.size=m+1
 perm:d.toList.Perm (List.finRange (m+1))
def mU {m} {d:Array (Fin (m+1))} {i} (b:i < d.size):(d.toList.map (·.val))[i]?=some (eU d i):=by
 rw [zAf,zDz,zAq b];simp [eU,aES d i b]
section
variable {m : Nat} {d : Array (Fin (m + 1))}
def RowsOk.lt (c:RowsOk m d) (b):eU d b < m+1:=(d[b]!).isLt
def RowsOk.b6 (e:RowsOk m d):(d.toList.map (·.val)).Perm (List.range (m+1)):=by
 have b:=e.perm.map (·.val);have c:(List.finRange (m+1)).map (·.val)=List.range (m+1):=by
  apply List.ext_getElem
  .simp
  .intro g b f;simp
 rwa [c] at b
def RowsOk.nodup (b:RowsOk m d):(d.toList.map (·.val)).Nodup:=b.b6.nodup_iff.2 zDl
def RowsOk.inj (b:RowsOk m d) {i j} (c:i < m+1) (f:j < m+1) (e:eU d i=eU d j):i=j:=by
 refine (List.getElem?_inj (l:=d.toList.map (·.val)) (by simpa [b.size] using c) b.nodup).1 ?_;rw [mU (by rw [b.size];exact c),mU (by rw [b.size];exact f),e]
def RowsOk.cP (e:RowsOk m d) {p} (l:p < m+1):∃b,b < m+1/\eU d b=p:=by
 have j:p∈d.toList.map (·.val):=e.b6.mem_iff.2 (by simpa using l);obtain ⟨b,f,k⟩:=zDR j;have g:b < m+1:=by simpa [e.size] using f
 refine ⟨b,g,?_⟩;have c:=mU (d:=d) (i:=b) (by rw [e.size];exact g);rw [zAa f,k] at c;injection c with c;exact c.symm
def RowsOk.cell (c:RowsOk m d) {b} (e:b < m+1):(d.map (fS m))[b]?=some (.int .i64 (eU d b:Nat)):=by
 have:b < d.size:=by rw [c.size];exact e
 simp [fS,eU,this,aES]
def RowsOk.b9 {d':Array (Fin (m+1))} (b:RowsOk m d) (c:PermIn 0 d.size d d'):RowsOk m d':=
 ⟨c.1.trans b.size,(aAi c).trans b.perm⟩
def RowsOk.aa (e:RowsOk m d) {l} (r:l.length=m+1) {w} (s:∀b c,b < c->c < m+1->ltW (aN l) w (eU d b) (eU d c)):IsSuf l (d.toList.map (·.val)):=by
 refine ⟨by rw [r];exact e.b6,?_⟩;rw [zAr];intro b c j k q;have p:b < m+1:=by simpa [e.size] using j
 have n:c < m+1:=by simpa [e.size] using k
 have f:=mU (d:=d) (i:=b) (by rw [e.size];exact p);have g:=mU (d:=d) (i:=c) (by rw [e.size];exact n);rw [zAa j] at f;rw [zAa k] at g;injection f with f;injection g with g;rw [f,g];exact ⟨w,s b c q n⟩
end
def aAb (m:Nat):Array (Fin (m+1)):=(List.finRange (m+1)).toArray
def aKz (m):RowsOk m (aAb m):=⟨by simp [aAb],by simp [aAb]⟩
def aKL {c:Nat} {cs:Array Value} {f:Nat->Nat} {v:Nat->Nat} (B:c<=cs.size) (u:∀b,b < c->f b < c) (s:∀b,b < c->cs[f b]?=some (.int .i64 (v b:Nat))) (x:∀j,j < c->∃e,e < c/\f e=j):
 ∃k:List Nat,k.length=c/\(∀b,b < c->k[f b]?=some (v b))/\(∀(b:Nat) p,(k.map sv)[b]?=some p->cs[b]?=some p)/\∀y∈k,∃b,b < c/\y=v b:=by
 let r:Nat->Nat:=λj=>match cs[j]? with
  | some (.int _ q)=>q.toNat
  | _=>0
 have l:∀b,b < c->r (f b)=v b:=by intro b i;show (match cs[f b]? with | some (.int _ q)=>q.toNat | _=>0)=v b;rw [s b i];simp
 refine ⟨(List.range c).map r,by simp,λb i=>?_,λb p n=>?_,λy A=>?_⟩
 .simp [u b i,l b i]
 have i:b < c:=(by have:=(zAc.1 n).1;simpa using this);obtain ⟨e,g,rfl⟩:=x b i;simp [u e g,l e g] at n;rw [s e g,<-n];rfl;obtain ⟨j,z,rfl⟩:=zAy.1 A;obtain ⟨e,g,rfl⟩:=x j (by simpa using z);exact ⟨e,g,l e g⟩
def cfF (m w:Nat) (b:List Nat) (c e:Fin (m+1)):Int:=lV (aN b) w c.val e.val
def aNY {g e:List Nat} {w:Nat} (m:Nat) (b:RankOk (aN g) (aN e) w):SWO (ltOf (cfF m w e)) where
 irrefl x:=by unfold ltOf cfF;rw [decide_eq_false_iff_not,zF b];exact λb=>b.irrefl
 trans x y z h1 h2:=by
  unfold ltOf cfF at*
  rw [decide_eq_true_iff,zF b] at*
  exact h1.trans h2
 ntrans x y z h1 h2:=by
  unfold ltOf cfF at*
  rw [decide_eq_false_iff_not,zF b] at*
  intro f;rcases rM (a:=aN g) (w+w) x.val y.val with c | c | c;exact h1 c;exact h2 (ltW.eq_left c.symm f);exact h2 (c.trans f)
def aKm {e c w m} {d:Array (Fin (m+1))} (f:RankOk (aN e) (aN c) w) (k:d.size=m+1) (j:SortedIn (ltOf (cfF m w c)) 0 (m+1) d) {i} (g:i+1 < m+1):¬ltW (aN e) (w+w) (eU d (i+1)) (eU d i):=by
 have b:=j i (i+1) (zAp _) oM g;unfold ltOf cfF at b;rw [decide_eq_false_iff_not,zF f] at b;exact b
end
end Go.Proofs.YtknjfpcdhdmghaaGreatDoor
