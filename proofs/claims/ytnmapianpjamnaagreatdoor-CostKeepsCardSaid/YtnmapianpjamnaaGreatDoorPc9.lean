/- Lemmas of the walk. Conditions: each its own. -/
import Derived.Test.YtnmapianpjamnaaGreatDoorPc8
import Derived.Test.YtnmapianpjamnaaGreatDoorProg
set_option linter.all false
set_option maxRecDepth 100000
set_option maxHeartbeats 1000000
open Go.Proofs.Tryz
namespace Go.Proofs.YtnmapianpjamnaaGreatDoor
section
open Go.RowKit
def TreeEo (w:World) (F:Nat->Prop) (gt:Nat) (o:Option Tr):Prop:=
 ∃(k:Nat) (i:Option Addr) (j b:Nat) (g:List Value) (l:List Bool) (c:List Nat) (e n:Int),TX w F gt k i j b g l c e n/\b<=200/\((o=none/\e=-1/\c.Perm (List.range b))∨∃t:LT,o=some t.er/\t.In w g/\e=(t.num:Int)/\t.er.Ok/\t.len<=1100/\(t.nums++c).Perm (List.range b)/\t.blks.Nodup/\∀f,f∈t.blks->F f)
def TreeE (w:World) (F:Nat->Prop) (gt:Nat) (bs:List Bool):Prop:=∃o,bK o=bs/\TreeEo w F gt o
def TreeB (w:World) (b gt:Nat) (bs:List Bool):Prop:=TreeE w (fun c=>b<=c) gt bs
section
variable {w w' : World} {F G : Nat -> Prop} {gt : Nat} {bs : List Bool} {o : Option Tr}
def TreeEo.at (k:TreeEo w F gt o):TreeO w gt o:=by
 obtain ⟨e,b,c,g,j,s,q,r,i,f,_,⟨rfl,rfl,_⟩|⟨t,rfl,p,rfl,l,n,_⟩⟩:=k;exact ⟨e,b,c,g,j,_,i,f.rd,.inl ⟨rfl,rfl⟩⟩;exact ⟨e,b,c,g,j,_,i,f.rd,.inr ⟨t,rfl,p,rfl,l,n⟩⟩
def TreeEo.vis (k:TreeEo w F gt o) (c:Vis w w'):TreeEo w' F gt o:=by
 obtain ⟨j,e,f,s,y,v,i,u,z,l,q,b⟩:=k;obtain ⟨x,n⟩:=l.vis c;refine ⟨j,e,f,s,y,v,i,u,x,n,q,?_⟩;rcases b with b |⟨t,g,r,p⟩;exact .inl b;exact .inr ⟨t,g,r.vis c,p⟩
def LT.In.blt:∀ {t:LT} {e:List Value},t.In w e->∀b,b∈t.blks->b < w.heap.size:=fun c=>lB c
def TreeEo.mono (q:TreeEo w F gt o) (i:∀b,b < w.heap.size->F b->G b):TreeEo w G gt o:=by
 obtain ⟨p,j,k,B,H,D,n,C,E,r,A,e⟩:=q;refine ⟨p,j,k,B,H,D,n,C,E,r.mono i,A,?_⟩;rcases e with e |⟨t,l,g,s,u,v,x,y,z⟩;exact .inl e;exact .inr ⟨t,l,g,s,u,v,x,y,fun c f=>i c (g.blt c f) (z c f)⟩
def TreeEo.keep (s:TreeEo w F gt o) (j:Keep G w w') (i:∀b t c,t∈ [205,228,220,240,4,3]->Bk w b t c->F b->¬G b):TreeEo w' F gt o:=by
 obtain ⟨r,k,l,E,K,I,p,H,J,u,C,e⟩:=s;refine ⟨r,k,l,E,K,I,p,H,J,u.keep j fun b t c ht=>i b t c (by simp at ht;rcases ht with rfl | rfl | rfl | rfl | rfl <;> decide),C,?_⟩;rcases e with e |⟨t,n,D,v,x,y,z,A,f⟩;exact .inl e;exact .inr ⟨t,n,D.keep (fun _ _ _ a=>a) (fun q B c g=>j.bk g (i _ _ _ dC g (f q B))),v,x,y,z,A,f⟩
def TreeEo.below (c:TreeEo w F gt o) (e:Below w.heap.size w w'):TreeEo w' F gt o:=c.keep (G:=fun _=>False) (Keep.of_below e) fun _ _ _ _ _ _ b=>b
def TreeE.at (b:TreeE w F gt bs):TreeAt w gt bs:=by
 obtain ⟨o,c,b⟩:=b;exact ⟨o,c,b.at⟩
def TreeE.le (b:TreeE w F gt bs):bs.length<=1100:=b.at.le
def TreeE.vis (b:TreeE w F gt bs) (e:Vis w w'):TreeE w' F gt bs:=by
 obtain ⟨o,c,b⟩:=b;exact ⟨o,c,b.vis e⟩
def TreeE.mono (c:TreeE w F gt bs) (f:∀b,b < w.heap.size->F b->G b):TreeE w G gt bs:=by
 obtain ⟨o,e,c⟩:=c;exact ⟨o,e,c.mono f⟩
def TreeE.keep (c:TreeE w F gt bs) (i:Keep G w w') (g:∀b t e,t∈ [205,228,220,240,4,3]->Bk w b t e->F b->¬G b):TreeE w' F gt bs:=by
 obtain ⟨o,f,c⟩:=c;exact ⟨o,f,c.keep i g⟩
def TreeE.below (c:TreeE w F gt bs) (e:Below w.heap.size w w'):TreeE w' F gt bs:=c.keep (G:=fun _=>False) (Keep.of_below e) fun _ _ _ _ _ _ b=>b
def TreeB.at {b:Nat} (c:TreeB w b gt bs):TreeAt w gt bs:=TreeE.at c
def TreeB.keep {c:Nat} (e:TreeB w c gt bs) (j:Keep F w w') (i:∀b,F b->b < c):TreeB w' c gt bs:=TreeE.keep e j fun b _ _ _ _ g f=>by
 have:=i b f;have k:c<=b:=g;omega
def TreeB.below {B:Nat} (b:TreeB w B gt bs) (c:Below w.heap.size w w'):TreeB w' B gt bs:=TreeE.below b c
def TreeB.mono {B b:Nat} (c:TreeB w B gt bs) (hB:b<=B):TreeB w b gt bs:=TreeE.mono c fun f _ e=>zAk hB e
def TreeB.own {b:Nat} (e:TreeB w b gt bs):TreeE w (fun c=>b<=c) gt bs:=e
end
def yU (gt:Nat) (bs:List Bool) (b:Nat) (w:World) (c:TreeAt w gt bs) (g:b < bs.length):
 Calls prog 174 #[gt,(b:Int)] w fun f w'=>f=.returned (.tuple #[.bool (bs.getD b false),.int .i64 0])/\VisK (fun e=>e=gt) w w':=by
 obtain ⟨o,rfl,c⟩:=c;exact aCf gt o b w c g
def iA (w:World) (b:Nat) (c:TypeId) (e:Nat):w.ownsRow b c e (.slice none 0 0) 0 []:=World.ownsRow_nil _ _ _ _
def TreeAt.blk {w:World} {gt:Nat} {bs:List Bool} (c:TreeAt w gt bs):∃b,Bk w gt 205 b:=by
 obtain ⟨o,f,c⟩:=c;obtain ⟨b,e,_⟩:=c.blk;exact ⟨b,e⟩
def TreeE.fg {w:World} {F:Nat->Prop} {gt:Nat} {bs:List Bool} (b:TreeE w F gt bs):F gt:=by
 obtain ⟨_,_,_,_,_,_,_,_,_,_,_,b,_⟩:=b;exact b.fg
def TreeB.base {w:World} {b gt:Nat} {bs:List Bool} (c:TreeB w b gt bs):b<=gt:=TreeE.fg c
def HtB (b c:Nat):Prop:=∀t:Tr,t.Ok->t.bits.length<=c->t.ht<=b
def HtB.mono {b c m:Nat} (e:HtB b c) (i:m<=c):HtB b m:=fun t f g=>e t f (zAk g i)
def aBk {b:Nat} (c:b<=1100):HtB 1100 b:=fun t e f=>zAk e.ht_len (zAk f c)
def TreeO.ht {w:World} {gt b:Nat} {o:Option Tr} (c:TreeO w gt o) (f:HtB b (bK o).length):oht o<=b:=by
 obtain ⟨_,_,_,_,_,_,_,_,⟨rfl,_⟩|⟨t,rfl,_,_,e,_⟩⟩:=c;exact zAp _;exact f _ e nL
def RankV.mono {gt b c:Nat} {w:World} (e:RankV gt b w) (i:b<=c):RankV gt c w:=by
 obtain ⟨d,f,g⟩:=e;exact ⟨d,zAk f i,g⟩
def RankV.keep {F:Nat->Prop} {gt b:Nat} {w w':World} (c:RankV gt b w) (j:Keep F w w') (i:gt < w.heap.size) (g:¬F gt):RankV gt b w':=by
 obtain ⟨d,e,f⟩:=c;exact ⟨d,e,(j.cell (p:=⟨gt,3,none⟩) i g).trans f⟩
def aAT (gt f:Nat) (bs:List Bool) (e:Nat) (b:Bool) (w:World) (c:TreeAt w gt bs) (n:e<=bs.length) (l:HtB f bs.length):
 Calls prog 195 #[gt,(e:Int),.bool b] w fun g w'=>g=.returned (.int .i64 (((bs.take e).count b:Nat):Int))/\VisK (fun b=>b=gt) w w'/\RankV gt (f+1) w':=by
 obtain ⟨o,rfl,c⟩:=c;refine (aAU gt o e b w c n).mono ?_;rintro g w' ⟨i,j,k⟩;exact ⟨i,j,k.mono (Nat.succ_le_succ (c.ht l))⟩
def aP (b lv:Nat):Nat:=b / 2 ^(9 - lv)
def eH (b lv:Nat):Bool:=decide (b / 2 ^(8 - lv)% 2=1)
def eP (b:Nat) (w:World) (g:b < 257):
 Calls prog 91 #[(b:Int)] w fun c w'=>c=.returned (.bool true)/\Below w.heap.size w w':=by
 have e:(0:Int)<=(b:Int):=oM;have f:(b:Int) < 257:=oM;go_enter func91,ntmps91;go_wp2;go_ret;exact ⟨rfl,Below.refl _ _⟩
def yG (c b:Nat):(c:Int)/ 2 ^ b=((c / 2 ^ b:Nat):Int):=by push_cast;rfl
def aFO (b:Nat) (e:b < 257):bits .and .i64 (b:Int) 1=((b % 2:Nat):Int):=by
 have c:=(bits_nat .i64 10 dC (fun g f c=>by rw [IntKind.wrap_i64];omega) b 1 oM oM).1;rw [show ((1:Nat):Int)=1 from rfl] at c;rw [c,Nat.and_one_is_mod]
def hQ (b lv:Nat) (w:World) (f:b < 257) (j:lv<=9):
 Calls prog 92 #[(b:Int),(lv:Int)] w fun c w'=>c=.returned (.int .i64 ((aP b lv:Nat):Int))/\Below w.heap.size w w':=by
 have g:¬((lv:Int) < 0):=oM;have i:¬((lv:Int) > 9):=oM;go_enter func92,ntmps92;go_wp2_with fail;refine (eP b _ f).mono ?_;rintro c w1 ⟨rfl,e⟩;go_wp2_with fail;go_ret;exact ⟨cT (yG _ _),e⟩
def jH (c lv:Nat) (w:World) (g:c < 257) (s:lv < 9):
 Calls prog 93 #[(c:Int),(lv:Int)] w fun e w'=>e=.returned (.bool (eH c lv))/\Below w.heap.size w w':=by
 have q:¬((lv:Int) < 0):=oM;have r:¬((lv:Int)>=9):=oM;go_enter func93,ntmps93;go_wp2_with fail;refine (eP c _ g).mono ?_;rintro e w1 ⟨rfl,k⟩;go_wp2_with fail;go_ret;refine ⟨aCR ?_,k⟩;have l:c / 2 ^(8 - lv) < 257:=Nat.lt_of_le_of_lt (Nat.div_le_self _ _) g;rw [yG,aFO _ l];unfold eH;generalize c / 2 ^(8 - lv)% 2=i;by_cases f:i=1;subst f;rfl
 · have j:((i:Int)==1)=false:=(by simp;omega);rw [j];simp [f]
@[irreducible] def wcells (b:Nat->Value) (n p:Int):Array Value:=#[b 0,b 1,b 2,b 3,b 4,b 5,b 6,b 7,b 8,.int .i64 n,.int .i64 p]
def aT (b:Nat->Value) (c e:Int):(wcells b c e)[0]?=some (b 0)/\(wcells b c e)[1]?=some (b 1)/\(wcells b c e)[2]?=some (b 2)/\(wcells b c e)[3]?=some (b 3)/\(wcells b c e)[4]?=some (b 4)/\(wcells b c e)[5]?=some (b 5)/\(wcells b c e)[6]?=some (b 6)/\(wcells b c e)[7]?=some (b 7)/\(wcells b c e)[8]?=some (b 8)/\(wcells b c e)[9]?=some (.int .i64 c)/\(wcells b c e)[10]?=some (.int .i64 e):=by
 unfold wcells;exact ⟨rfl,rfl,rfl,rfl,rfl,rfl,rfl,rfl,rfl,rfl,rfl⟩
def bN (b:Nat->Value) (c f e:Int):(wcells b c f).setIfInBounds 10 (.int .i64 e)=wcells b c e:=by
 unfold wcells;rfl
def nR (c:Nat->Value) (e f:Int) (b:Nat) (s:b < 9):(wcells c e f)[b]?=some (c b):=by
 obtain ⟨g,i,j,k,l,n,p,q,r,_⟩:=aT c e f;rcases b with _ | _ | _ | _ | _ | _ | _ | _ | _ | b
 all_goals first | assumption | omega
def zU (c:Nat->Value) (f i:Int) (b:Nat) (j:b < 9) (g:Value):(wcells c f i).setIfInBounds b g=wcells (fun e=>if e=b then g else c e) f i:=by
 unfold wcells;rcases b with _ | _ | _ | _ | _ | _ | _ | _ | _ | b
 all_goals first | rfl | omega
def Vis.waveC {w w':World} {f:Nat} {e:Nat->Value} {g i:Int} (j:Vis w w') (k:Bk w f 135 (wcells e g i)):∃c,Bk w' f 135 (wcells e g c):=by
 rcases j.wave k with b |⟨c,b⟩;exact ⟨i,b⟩;rw [bN] at b;exact ⟨c,b⟩
def aEs (gt g gk i c:Nat) (lv B:Int) (p:Value) (bs:List Bool) (e:Nat) (b:Bool) (w:World) (ht:TreeAt w gt bs) (k:Bk w gk 3 #[(e:Int)]) (j:Bk w i 4 #[.bool b]) (l:Bk w c 3 #[p]) (A:e<=bs.length) (z:HtB g bs.length):
 Calls prog 194 #[.agg #[gt,.int .i64 lv,.int .i64 B],gk,i,c] w fun q w'=>q=.returned (.tuple #[])/\
  ∃w1,VisK (fun b=>b=gt) w w1/\Bk w1 c 3 #[p]/\RankV gt (g+1) w1/\w'=w1.setCell c (.int .i64 (((bs.take e).count b:Nat):Int)):=by
 have C:w.cell? gk=some (.int .i64 (e:Int)):=(k.cell 0).trans rfl;have D:w.cell? i=some (.bool b):=(j.cell 0).trans rfl;have I:=k.lt;have J:=j.lt;have K:=l.lt;obtain ⟨y,Hn⟩:=hqq2 ht l;clear ht k j l;go_enter func194,ntmps194;go_wp2_with fail;refine (aAT gt g bs e b _ (y.out.below (bR.alloc nL _)) A z).mono ?_;rintro q w1 ⟨rfl,s,r⟩;have x:=lhd r;clear r;have n:VisK (fun b=>b=gt) w w1:=(VisK.of_below (bR.alloc nL _)).trans s;have f:=n.1.bk Hn.out dC dC;have E:w1.cell? c=some p:=(f.cell 0).trans rfl;have H:=f.frozen 0;obtain ⟨u,v⟩:=hqq2 n f;clear s n f;go_wp2_with fail;go_end0;exact ⟨rfl,w1,u.out,v.out,x.out,rfl⟩
def Vis.of_wave {w w':World} {e:Nat} {f:Nat->Value} {i p j:Int} (b:Keep (fun c=>c=e) w w') (k:Bk w e 135 (wcells f i p)) (l:Bk w' e 135 (wcells f i j)):Vis w w':=by
 refine ⟨b.os,b.tape,b.output,b.size,fun c n _=>?_⟩;by_cases g:c=e;subst g;exact .inr (.inr ⟨_,j,k,by rw [bN];exact l⟩);exact .inl (b.block c n g)
def aEv (c gt N gk Q e:Nat) (v:Nat->Value) (y M lv l:Int) (ai:Value) (bs:List Bool) (g:Nat) (b:Bool) (w:World) (L:Bk w c 135 (wcells v y M)) (ht:TreeAt w gt bs) (U:Bk w gk 3 #[(g:Int)]) (S:Bk w Q 4 #[.bool b]) (I:Bk w e 3 #[ai]) (aL:g<=bs.length) (aA:HtB N bs.length):
 Calls prog 115 #[c,.agg #[gt,.int .i64 lv,.int .i64 l],.func (.func 194) #[] #[gk,Q,e]] w fun f w'=>f=.returned (.tuple #[])/\
  VisF (fun b=>b=e) w w'/\Keep (fun b=>b=c∨b=gt∨b=e) w w'/\Bk w' e 3 #[.int .i64 (((bs.take g).count b:Nat):Int)]/\∃d:Nat,d<=N+1/\Bk w' c 135 (wcells v y (IntKind.i64.wrap (M+(d:Int)))):=by
 obtain ⟨o,X⟩:=eqx (Obj.cells #[gt,.int .i64 lv,.int .i64 l] 143);have a7:=(Below.refl w.heap.size w).alloc nL o;have Y:=Bk.new w 143 #[gt,.int .i64 lv,.int .i64 l];rw [X] at Y;have b5:=U.lt;have b6:=S.lt;have b7:=I.lt;have aO:=L.lt;have aP:=Bk.ne I L dC;obtain ⟨A,Hn,a2,a1,O,u,a3,aq⟩:=hqq8 ht I U S L a7 Y X;clear ht U S I L a7 Y X;go_enter func115,ntmps115;go_wp2_with fail;rw [aq.out];refine (aEs gt N gk Q e lv l ai bs g b _ (A.out.below u.out) (a2.out.alloc _) (a1.out.alloc _) (Hn.out.alloc _) aL aA).mono ?_;rintro f z ⟨rfl,w1,x,W,ab,rfl⟩;have aK:gt≠c:=by rintro rfl;obtain ⟨_,q⟩:=A.out.blk;exact absurd (aJ q O.out).1 dC
 obtain ⟨k,ad,ag⟩:∃k,M=k/\Bk w1 c 135 (wcells v y k):=⟨M,rfl,x.2.bk (O.out.below u.out aO) (fun f=>aK (show c=gt from f).symm)⟩;have av:=lhd ad;have aM:e≠gt:=by rintro rfl;obtain ⟨_,q⟩:=A.out.blk;exact absurd (aJ q Hn.out).1 dC
 obtain ⟨d,aC,a9⟩:=ab.keep (F:=fun b=>b=e) (Keep.setCell (F:=fun b=>b=e) (Keep.refl _ _) (p:=e) (.inl rfl) (.int .i64 (((bs.take g).count b:Nat):Int))) (zAl A.out.lt (zAk u.out.size x.1.size)) (fun f=>aM (show gt=e from f).symm);clear ad ab;have E:=ag.far (p:=e) (fun i=>aP i.symm) (.int .i64 (((bs.take g).count b:Nat):Int));have ac:=A.out.vis ((Vis.of_below u.out).trans x.1);have K:TreeAt (w1.setCell e (.int .i64 (((bs.take g).count b:Nat):Int))) gt bs:=ac.same fun ay t aV aa i=>i.far (fun f=>by
  have az:ay=e:=f;subst az;rw [<-(aJ W i).1] at aa;exact absurd aa dC) _
 obtain ⟨s,af,Z⟩:∃s:Int,(d:Int)=s/\(w1.setCell e (.int .i64 (((bs.take g).count b:Nat):Int))).cell? ⟨gt,3,none⟩=some (.int .i64 s):=⟨_,rfl,a9⟩;have ax:=lhd af;clear af a9;have B:=(x.1.bk a3.out dC dC).far (p:=e) (fun i=>absurd (show w.heap.size=e from i) oM) (.int .i64 (((bs.take g).count b:Nat):Int));have J:=W.set 0 (.int .i64 (((bs.take g).count b:Nat):Int));have T:VisF (fun b=>b=e) w (w1.setCell e (.int .i64 (((bs.take g).count b:Nat):Int))):=VisF.put (F:=fun b=>b=e) (VisF.of_vis ((Vis.of_below u.out).trans x.1)) (p:=e) (.inl rfl) _;have V:Keep (fun b=>b=c∨b=gt∨b=e) w (w1.setCell e (.int .i64 (((bs.take g).count b:Nat):Int))):=Keep.setCell (F:=fun b=>b=c∨b=gt∨b=e) ((Keep.of_below u.out).trans (x.2.mono fun b _ f=>.inr (.inl f))) (p:=e) (.inl (.inr (.inr rfl))) _;obtain ⟨H,a6⟩:=eqx (w1.setCell e (.int .i64 (((bs.take g).count b:Nat):Int)));rw [a6] at E K Z B J T V⊢;have aQ:H.cell? w.heap.size=some (.pointer (some gt)):=(B.cell 0).trans rfl;obtain ⟨P,ar,ap,am,ao,au,aw⟩:=hqq7 E B J T V K Z;have aN:=K.lt;have b4:=B.lt;have aF:=Bk.ne E B dC;have aE:=Bk.ne E J dC;have aI:gt≠c:=by rintro rfl;obtain ⟨_,q⟩:=au.out.blk;exact absurd (aJ q P.out).1 dC
 clear E B J T V K Z a6 ag ac W x u A Hn a2 a1 O a3 aQ;go_wp2_with fail;refine wp_region_any kR ?_;refine bL [9,10,11,12,13,14,15,16,17,18] (fun b=>b=c) 10 [3,10] (fun z=>Bk z c 135 (wcells v y k)) (fun _ z=>Bk z c 135 (wcells v y (IntKind.i64.wrap (k+s)))) [is c,is c,is (.pointer (some ⟨c,10,none⟩)),is (.int .i64 k),is w.heap.size,is gt,is (.int .i64 s),is (.int .i64 (IntKind.i64.wrap (k+s))),is c,is (.pointer (some ⟨c,10,none⟩)),cR] _ _ rfl kR kR (P.out) (fun z b9 i _ aD=>Bk.below i aD i.lt) (fun _ _ _ i g=>Bk.below i g i.lt) tA0 ?_ ?_
 · refine aZ ?_;refine pH3 0 (.pointer (some c)) ?_;refine pV3 0 9 ?_;refine pV3 1 10 ?_;refine sC3 (fun _ n _ R _ _ _ r _ _ _ C=>?_) ?_
   · have D:=R rfl;have aX:_=_:=r 2 11 kR rfl;have aS:n.cell? ⟨c,10,none⟩=some (.int .i64 k):=(D.cell 10).trans (aT _ _ _).2.2.2.2.2.2.2.2.2.2;go_simp;exact kq C rfl
   refine pH3 4 (.pointer (some w.heap.size)) ?_;refine pL3 4 13 (fun n j=>have j:Keep (fun b=>b=c) H n:=kD j;(((j.bk ar.out (fun i=>aF (show w.heap.size=c from i).symm)).cell 0).trans rfl:n.cell? w.heap.size=some (.pointer (some gt)))) ?_;refine sC3 (fun _ n j _ _ _ _ r _ _ _ C=>?_) ?_
   · replace j:Keep (fun b=>b=c) H n:=kD j;have aY:_=_:=r 5 14 kR rfl;go_simp;refine (dX gt s n ((j.cell aN aI).trans aw.out)).mono ?_;rintro f ba ⟨rfl,aB⟩;exact C _ _ (aG aB) rfl
   refine pW3 3 12 6 15 ?_;refine pV3 0 9 ?_;refine pV3 8 17 ?_;refine sC3 (fun _ n _ R _ _ _ r _ _ _ C=>?_) ?_
   · have D:=R rfl;have b1:_=_:=r 9 18 kR rfl;have b0:_=_:=r 7 16 kR rfl;have aU:n.cell? ⟨c,10,none⟩=some (.int .i64 k):=(D.cell 10).trans (aT _ _ _).2.2.2.2.2.2.2.2.2.2;have b3:=D.frozen 10;go_simp;refine C (.bool true) _ (aW (Keep.setCell (F:=fun b=>b=c) (Keep.refl _ _) (p:=⟨c,10,none⟩) (.inl rfl) _)) ?_;rw [<-bN v y k];exact D.set 10 _
   exact aH
 · intro b2 ah j r a8;replace j:Keep (fun b=>b=c) H ah:=kD j;obtain ⟨b8,a0⟩:∃aR,(fun _ z=>Bk z c 135 (wcells v y (IntKind.i64.wrap (k+s)))) aR ah:=a8 10 dC;simp only [zqq];clear r a8;have ae:=Vis.of_wave j P.out a0;have a4:=VisF.trans am.out (VisF.of_vis ae);have q:=ao.out.trans (j.mono fun b _ f=>.inl f);have a5:=j.bk ap.out (fun f=>aE (show e=c from f).symm);obtain ⟨aj,ak,al,an⟩:=hqq4 a4 q a5 a0;clear ae a4 q a5 a0 j;go_wp2_with fail;go_end0;exact ⟨rfl,aj.out,ak.out,al.out,d,aC,by rw [ax.out,av.out];exact an.out⟩
def yQ (i gt l:Nat) (n:Nat->Value) (q r lv f:Int) (bs:List Bool) (c:Nat) (b:Bool) (w:World) (p:Bk w i 135 (wcells n q r)) (ht:TreeAt w gt bs) (V:c<=bs.length) (T:HtB l bs.length):
 Calls prog 118 #[i,.agg #[gt,.int .i64 lv,.int .i64 f],(c:Int),.bool b] w fun e w'=>e=.returned (.int .i64 (((bs.take c).count b:Nat):Int))/\VisK (fun b=>b=i∨b=gt) w w'/\∃d:Nat,d<=l+1/\Bk w' i 135 (wcells n q (IntKind.i64.wrap (r+(d:Int)))):=by
 have X:∀(v:Fn) (first u:Array Value) (w:World),(Instr.makeFunc v first u).run prog w=.ok (.func v first u) w:=fun _ _ _ _=>rfl;obtain ⟨k,j⟩:=eqx ((((w.alloc (.cells #[gt,.int .i64 lv,.int .i64 f] 143)).alloc (.cells #[(c:Int)] 3)).alloc (.cells #[.bool b] 4)).alloc (.cells #[.int .i64 0] 3));have hB:Below w.heap.size w k:=by rw [<-j];exact (((bR.alloc nL _).alloc (by simp) _).alloc (by simp;omega) _).alloc (by simp;omega) _
 have x:Bk k (w.heap.size+1) 3 #[(c:Int)]:=by rw [<-j];have g:=Bk.new (w.alloc (.cells #[gt,.int .i64 lv,.int .i64 f] 143)) 3 #[(c:Int)];rw [show (w.alloc (.cells #[gt,.int .i64 lv,.int .i64 f] 143)).heap.size=w.heap.size+1 from by simp] at g;exact (g.alloc _).alloc _
 have y:Bk k (w.heap.size+1+1) 4 #[.bool b]:=by rw [<-j];have g:=Bk.new ((w.alloc (.cells #[gt,.int .i64 lv,.int .i64 f] 143)).alloc (.cells #[(c:Int)] 3)) 4 #[.bool b];rw [show ((w.alloc (.cells #[gt,.int .i64 lv,.int .i64 f] 143)).alloc (.cells #[(c:Int)] 3)).heap.size=w.heap.size+1+1 from by simp] at g;exact g.alloc _
 have z:Bk k (w.heap.size+1+1+1) 3 #[.int .i64 0]:=by rw [<-j];have g:=Bk.new (((w.alloc (.cells #[gt,.int .i64 lv,.int .i64 f] 143)).alloc (.cells #[(c:Int)] 3)).alloc (.cells #[.bool b] 4)) 3 #[.int .i64 0];rw [show (((w.alloc (.cells #[gt,.int .i64 lv,.int .i64 f] 143)).alloc (.cells #[(c:Int)] 3)).alloc (.cells #[.bool b] 4)).heap.size=w.heap.size+1+1+1 from by simp] at g;exact g
 have J:=p.below hB p.lt;have E:=ht.below hB;obtain ⟨S,Q,K,L,M,P,s⟩:=hqq7 J E x y z j hB;clear p ht J E x y z j hB;go_enter func118,ntmps118;go_wp2_with fail;rw [P.out];refine (aEv i gt l _ _ _ n q r lv f _ bs c b k S.out Q.out K.out L.out M.out V T).mono ?_;rintro e w1 ⟨rfl,H,C,D,I⟩;have R:=lhd I;clear I;have A:Vis w w1:=VisF.to_vis (VisF.trans (VisF.of_vis (Vis.of_below s.out)) H) (fun b U e=>by omega);have B:Keep (fun b=>b=i∨b=gt) w w1:=(Keep.of_below s.out).trans' C (fun b U e=>by
  rcases e with e | e | e;exact .inl e;exact .inr e
  · omega)
 have W:w1.cell? ⟨w.heap.size+1+1+1,0,none⟩=some (.int .i64 (((bs.take c).count b:Nat):Int)):=(D.cell 0).trans rfl;obtain ⟨N,O⟩:=hqq2 A B;clear H C D A B;go_wp2_with fail;go_ret;exact ⟨rfl,⟨N.out,O.out⟩,R.out⟩
def lY (c gt:Nat) (f:Nat->Value) (i k lv j:Int) (bs:List Bool) (e:Nat) (b:Bool) (w:World) (q:Bk w c 135 (wcells f i k)) (ht:TreeAt w gt bs) (p:e<=bs.length):
 Calls prog 118 #[c,.agg #[gt,.int .i64 lv,.int .i64 j],(e:Int),.bool b] w fun g w'=>g=.returned (.int .i64 (((bs.take e).count b:Nat):Int))/\VisK (fun b=>b=c∨b=gt) w w':=
 (yQ c gt 1100 f i k lv j bs e b w q ht p (aBk ht.le)).mono fun g w' ⟨l,n,_⟩=>⟨l,n⟩
def aAr (e:List Nat):∀b∈e.map sv,b.oneCell'=true:=by
 intro b c;obtain ⟨f,_,rfl⟩:=zAy.1 c;rfl
def oU (t:List UInt8):List Nat:=t.map (fun b=>b.toNat+1)
def aY (t:List UInt8):List Nat:=oU t++ [0]
def bO (t:List UInt8):(aY t).length=t.length+1:=by simp [aY,oU]
def iV (t:List UInt8):∀e∈aY t,e < 257:=by
 intro e c;unfold aY oU at c;rcases zCm.1 c with b | b;obtain ⟨f,_,rfl⟩:=zAy.1 b;have:=f.toNat_lt;omega;simp at b;omega
def oF (b:UInt8) (w:World):
 Calls prog 107 #[.int .u8 (b.toNat:Int)] w fun c w'=>c=.returned (.int .i64 ((b.toNat+1:Nat):Int))/\Below w.heap.size w w':=by
 have f:=b.toNat_lt;have e:IntKind.i64.wrap (b.toNat:Int)=(b.toNat:Int):=by rw [IntKind.wrap_i64];omega
 go_enter func107,ntmps107;go_wp2;go_ret;exact ⟨cT oM,Below.refl _ _⟩
def rJ (l ag:Nat) (g:Option Addr) (m s C:Nat) (t:List UInt8) (w:World) (y:Bk w l 22 #[.slice g m s]) (x:Rd w C 1 g m (t.map bv)) (hB:C<=w.heap.size) (ai:m<=1000):
 Calls prog 150 #[.slice (some l) 1 1] w fun I w'=>∃i k,I=.returned (.slice i (m+1) k)/\Made w' w.heap.size 3 1 i (m+1) k ((aY t).map sv)/\Below w.heap.size w w':=by
 obtain ⟨W,M,T,U,V⟩:=info_parts fN;have S:t.length=m:=by simpa using x.1
 have a2:w.cell? l=some (.slice g m s):=(y.cell 0).trans rfl;have a5:=y.lt;obtain ⟨a1,E⟩:=hqq2 (x.mono hB) S;clear y x S;go_enter func150,ntmps150;go_wp2_with fail;go_loopw [3,10] (fun B f wr=>∃b:Nat,b<=1/\f=.int .i64 b/\wr.ownsRow w.heap.size 3 1 B (if b=0 then 0 else m) ((if b=0 then [] else oU t).map sv)/\Below w.heap.size w wr) (fun _ f _=>1 -(intOf f).toNat)
 case atStart=>exact ⟨0,by omega,rfl,World.ownsRow_nil _ _ _ _,Below.refl _ _⟩
 case round=>
  obtain ⟨b,a6,rfl,c,e⟩:=hrel;have p:=e.size;rcases b with _ | b
  · have af:wr.cell? l=some (.slice g m s):=(e.cell a5).trans a2;obtain ⟨j,Z⟩:=hqq2 c e;clear c e;go_wp2_with fail;obtain ⟨H,a3⟩:∃H,H=wr:=⟨_,rfl⟩;subst a3;go_loopw [3,16] (fun B f X=>∃b:Nat,b<=m/\f=.int .i64 b/\X.ownsRow w.heap.size 3 1 B b ((oU (t.take b)).map sv)/\Below w.heap.size w X) (fun _ f _=>m -(intOf f).toNat)
    case atStart=>exact ⟨0,by omega,rfl,j.out,Z.out⟩
    case round=>
        obtain ⟨b,a6,rfl,c,e⟩:=hrel;have p:=e.size;by_cases O:b < m
        · have a8:b < t.length:=(by rw [E.out];exact O);obtain ⟨q,A⟩:∃q,t[b]?=some q:=⟨t[b],zAa a8⟩;obtain ⟨ae,aj,ak,rfl,ah,z,a4⟩:=(a1.out.below e).get O;rw [zAf,A] at z;simp at z;subst z;have R:t.take (b+1)=t.take b++ [q]:=(by rw [zAv,A];rfl);unfold bv at a4;obtain ⟨Y,r⟩:=hqq2 R c;clear R A c;go_wp2_with fail;refine (oF q _).mono ?_;rintro I w1 ⟨rfl,K⟩;have P:=aO r.out K;have L:=e.trans (K.mono p);have Q:=L.size;have D:=lhd P;clear P;go_wp2_with (at_builtin;refine cW _ rfl (.tmp 20) (.tmp 23) _ rfl w.heap.size 3 W (.int .i64 0) 1 8 underlying27 M T U V rfl dC _ b _ rfl D.out rfl rfl (by simp [Value.oneCell']) (by unfold maxLen;omega) oM Q ?_;intro ac ad v n ab J);have u:=cL L D.out n Q;clear n J;go_roundw
          case rel=>refine ⟨b+1,by omega,by go_num,?_,u⟩;rw [Y.out,oU,zAz,zAz];exact v
          case measure=>simp [intOf];omega
        · have a9:b=m:=oM;subst a9;rw [zAg (by rw [E.out];omega)] at c;have r:=lhd c;clear c;go_wp2_with fail;go_roundw
          case rel=>exact ⟨1,by omega,by go_num,r.out,e⟩
          case measure=>simp [intOf]
  · have a7:b=0:=oM;subst a7;rw [zBw oM,zBw oM] at c;have j:=lhd c;have N:(aY t).map sv=(oU t).map sv++ [.int .i64 0]:=(by simp [aY,sv]);have a0:=lhd N;clear c N;go_wp2_with (at_builtin;refine cW _ rfl (.tmp 27) (.tmp 28) _ rfl w.heap.size 3 W (.int .i64 0) 1 8 underlying27 M T U V rfl dC _ m _ rfl j.out rfl rfl (by simp [Value.oneCell']) (by unfold maxLen;omega) oM p ?_;intro ac ad v n ab J);have u:=cL e j.out n p;obtain ⟨i,k,rfl,aa⟩:=bE v;go_ret;exact ⟨i,k,rfl,by rw [a0.out];exact aa,u⟩
def sU (j:Option Addr) (b c l:Nat) (k:List Nat) (w:World) (i:Rd w l 1 j b (k.map sv)) (hB:l<=w.heap.size) (E:b<=1073741824):
 Calls prog 151 #[.slice j b c] w fun q w'=>∃f g,q=.returned (.slice f b g)/\Made w' w.heap.size 3 1 f b g (k.map sv)/\Below w.heap.size w w':=by
 obtain ⟨C,u,z,A,B⟩:=info_parts fN;have H:∀(w:World) (a:Option Addr) (b c:Nat),(binOp .eql 27 (.slice a b c) (.slice none 0 0)).run prog w=.ok (.bool a.isNone) w:=fun w a b c=>Lib.run_eql_slice_nil w _ _ a b c _ _ underlying27;rcases j with _ | a
 · have y:b=0:=by
    rcases zBa b with e | e;exact e
    · obtain ⟨_,_,e,_⟩:=i.2 e;cases e
   subst y;have v:k= []:=(by have:=i.1;simp only [zBc,Nat.zero_mul] at this;exact zBk this);subst v;go_enter func151,ntmps151;go_wp2;go_ret;exact ⟨none,0,rfl,⟨World.ownsRow_nil _ _ _ _,Rd.nil _ _ _ _,zAs _,zAp _⟩,Below.refl _ _⟩
 · have p:=lhd i;clear i;go_enter func151,ntmps151;go_wp2_with (at_builtin;refine bG _ rfl (.tmp 5) (.tmp 6) _ rfl w.heap.size 3 C (.int .i64 0) 1 8 underlying27 u z A B rfl dC (.slice (some ⟨w.heap.size,0,none⟩) 0 0) 0 [] rfl (tL w 3 1) w.heap.size (some a) b c _ rfl ((p.out.mono hB).alloc nL _) (aAr _) (by unfold maxLen;omega) oM (by simp) ?_;intro I J n s D);have r:=cL ((Below.refl w.heap.size w).alloc nL _) (tL w 3 1) s (by simp);rw [zBi,List.nil_append] at n;obtain ⟨f,g,rfl,x⟩:=bE n;go_wp2;go_ret;exact ⟨f,g,rfl,x,r⟩
end
section
def aN (b:List Nat) (c:Nat):Int:=match b[c]? with
 | some e=>(e:Int)
 | none=>-1
def aEF {b:List Nat} {c:Nat} (e:c < b.length):aN b c=(b[c]:Int):=by
 unfold aN;rw [zAa e]
def mZ {b:List Nat} {c e:Nat} (f:b[c]?=some e):aN b c=(e:Int):=by
 unfold aN;rw [f]
def kE {l:List Nat} {p:Nat} (b:l.length<=p):aN l p=-1:=by
 unfold aN;rw [zBg b]
def gK {l:List Nat} {p:Nat} (b:p < l.length):0<=aN l p:=by
 rw [aEF b];omega
section
variable (a : Nat -> Int)
def eqW (w b c:Nat):Prop:=∀m,m < w->a (b+m)=a (c+m)
def ltW (w c e:Nat):Prop:=∃b,b < w/\(∀m,m < b->a (c+m)=a (e+m))/\a (c+b) < a (e+b)
variable {a}
def eqW.symm {w b c:Nat} (e:eqW a w b c):eqW a w c b:=fun m f=>(e m f).symm
def eqW.trans {w c e f:Nat} (g:eqW a w c e) (i:eqW a w e f):eqW a w c f:=fun m b=>(g m b).trans (i m b)
def eqW.refl (w b:Nat):eqW a w b b:=fun _ _=>rfl
def mQ (w e f:Nat):ltW a w e f∨eqW a w e f∨ltW a w f e:=by
 induction w with
 | zero=>exact .inr (.inl fun m j=>absurd j oM)
 | succ w k=>
   rcases k with ⟨i,b,c⟩| g |⟨i,b,c⟩;exact .inl ⟨i,by omega,c⟩;rcases Int.lt_trichotomy (a (e+w)) (a (f+w)) with b | b | b;exact .inl ⟨w,by omega,g,b⟩;refine .inr (.inl fun m j=>?_);rcases zBe m w with c | c;exact g m c;have:m=w:=oM;subst this;exact b;exact .inr (.inr ⟨w,by omega,g.symm,b⟩);exact .inr (.inr ⟨i,by omega,c⟩)
def ltW.not_eq {w b c:Nat} (e:ltW a w b c):¬eqW a w b c:=by
 obtain ⟨i,f,j,k⟩:=e;intro g;have:=g i f;omega
def ltW.trans {w j k l:Nat} (r:ltW a w j k) (s:ltW a w k l):ltW a w j l:=by
 obtain ⟨e,n,f,p⟩:=r;obtain ⟨i,u,g,q⟩:=s;rcases Nat.lt_trichotomy e i with c | c | c;exact ⟨e,n,fun m b=>(f m b).trans (g m oM),by rw [<-g e c];exact p⟩;subst c;exact ⟨e,n,fun m b=>(f m b).trans (g m b),Int.lt_trans p q⟩;exact ⟨i,u,fun m b=>(f m oM).trans (g m b),by rw [f i c];exact q⟩
def ltW.irrefl {w b:Nat} (c:ltW a w b b):False:=c.not_eq (eqW.refl _ _)
def ltW.asymm {w b c:Nat} (e:ltW a w b c) (f:ltW a w c b):False:=(e.trans f).irrefl
def ltW.eq_right {w c e f:Nat} (j:ltW a w c e) (b:eqW a w e f):ltW a w c f:=by
 obtain ⟨g,i,l,n⟩:=j;exact ⟨g,i,fun m k=>(l m k).trans (b m oM),by rw [<-b g i];exact n⟩
def ltW.eq_left {w c e f:Nat} (b:eqW a w c e) (j:ltW a w e f):ltW a w c f:=by
 obtain ⟨g,i,l,n⟩:=j;exact ⟨g,i,fun m k=>(b m oM).trans (l m k),by rw [b g i];exact n⟩
def ltW.le_right {w g c e:Nat} (f:ltW a w g c) (i:¬ltW a w e c):ltW a w g e:=by
 rcases mQ (a:=a) w c e with b | b | b;exact f.trans b;exact f.eq_right b;exact absurd b i
def aAF (w c e:Nat):eqW a (w+w) c e↔eqW a w c e/\eqW a w (c+w) (e+w):=by
 constructor
 · intro b;refine ⟨fun m f=>b m oM,fun m f=>?_⟩;have:=b (w+m) oM;rwa [<-Nat.add_assoc,<-Nat.add_assoc] at this
 · intro ⟨g,i⟩ m f;rcases zBe m w with b | b;exact g m b
   · have:=i (m - w) oM;rwa [show c+w+(m - w)=c+m by omega,show e+w+(m - w)=e+m by omega] at this
def aAw (w c e:Nat):ltW a (w+w) c e↔ltW a w c e∨(eqW a w c e/\ltW a w (c+w) (e+w)):=by
 constructor
 · intro ⟨b,j,f,i⟩;rcases zBe b w with g | g;exact .inl ⟨b,g,f,i⟩
   · refine .inr ⟨fun m k=>f m oM,b - w,by omega,fun m k=>?_,?_⟩
     · have:=f (w+m) oM;rwa [<-Nat.add_assoc,<-Nat.add_assoc] at this
     · rwa [show c+w+(b - w)=c+b by omega,show e+w+(b - w)=e+b by omega]
 · rintro (⟨b,j,f,i⟩|⟨l,b,j,f,i⟩);exact ⟨b,by omega,f,i⟩
   · refine ⟨w+b,by omega,fun m k=>?_,by rwa [<-Nat.add_assoc,<-Nat.add_assoc]⟩;rcases zBe m w with g | g;exact l m g
     · have:=f (m - w) oM;rwa [show c+w+(m - w)=c+m by omega,show e+w+(m - w)=e+m by omega] at this
def RankOk (a e:Nat->Int) (w:Nat):Prop:=∀b c,e b < e c↔ltW a w b c
def RankOk.eq {e:Nat->Int} {w:Nat} (g:RankOk a e w) (b c:Nat):e b=e c↔eqW a w b c:=by
 constructor;intro i;rcases mQ (a:=a) w b c with f | f | f;have:=(g b c).2 f;omega;exact f;have:=(g c b).2 f;omega;intro i;have f:¬(e b < e c):=fun j=>((g b c).1 j).not_eq i;have k:¬(e c < e b):=fun j=>((g c b).1 j).not_eq i.symm;omega
def gW (b:Nat->Int) (w c e:Nat):Int:=if b c≠b e then b c - b e else b (c+w) - b (e+w)
def pB {j:Nat->Int} {w:Nat} (f:RankOk a j w) (c e:Nat):gW j w c e < 0↔ltW a (w+w) c e:=by
 unfold gW;rw [aAw];by_cases i:j c=j e
 · rw [zBw (by simpa using i)];have k:¬ltW a w c e:=fun n=>by have:=(f c e).2 n;omega
   have l:=(f.eq c e).1 i;have g:=f (c+w) (e+w);constructor;intro b;exact .inr ⟨l,g.1 oM⟩;rintro (b |⟨_,b⟩);exact absurd b k;have:=g.2 b;omega
 rw [zBx i];have g:=f c e;constructor;intro b;exact .inl (g.1 oM);rintro (b |⟨b,_⟩);have:=g.2 b;omega;exact absurd ((f.eq c e).2 b) i
def aD3 {e:Nat->Int} {w:Nat} (i:RankOk a e w) (b c:Nat):gW e w b c=0↔eqW a (w+w) b c:=by
 unfold gW;rw [aAF];by_cases f:e b=e c;rw [zBw (by simpa using f)];constructor;intro g;exact ⟨(i.eq b c).1 f,(i.eq _ _).1 oM⟩;intro ⟨_,g⟩;have:=(i.eq _ _).2 g;omega;rw [zBx f];constructor;intro g;exact absurd (show e b=e c by omega) f;intro ⟨g,_⟩;exact absurd ((i.eq b c).2 g) f
def cN (o:Nat->Nat->Int) (b:Nat->Nat):Nat->Nat
 | 0=>0
 | i+1=>cN o b i+(if o (b i) (b (i+1))≠0 then 1 else 0)
def aEq (o:Nat->Nat->Int) (b:Nat->Nat) (c:Nat):cN o b c<=cN o b (c+1)/\cN o b (c+1)<=cN o b c+1:=by
 show cN o b c<=cN o b c+_/\cN o b c+_<=cN o b c+1;split <;> omega
def oQ (o:Nat->Nat->Int) (b:Nat->Nat) (c d:Nat):cN o b c<=cN o b (c+d)/\cN o b (c+d)<=cN o b c+d:=by
 induction d with
 | zero=>exact ⟨zAs _,zAs _⟩
 | succ d e=>
   have:=aEq o b (c+d);rw [<-Nat.add_assoc];omega
def vP {o:Nat->Nat->Int} {c:Nat->Nat} {w q:Nat} (l:∀b p,o b p=0↔eqW a w b p) (u:∀b,b+1 < q->¬ltW a w (c (b+1)) (c b)) (b d:Nat) (y:b+d < q):
 (cN o c b < cN o c (b+d)↔ltW a w (c b) (c (b+d)))/\¬ltW a w (c (b+d)) (c b):=by
 induction d with
 | zero=>exact ⟨⟨fun e=>absurd e (by simp),fun e=>e.irrefl.elim⟩,fun e=>e.irrefl⟩
 | succ d v=>
   obtain ⟨r,i⟩:=v oM;have j:=u (b+d) oM;have x:=oQ o c b d;have g:cN o c (b+(d+1))=cN o c (b+d)+(if o (c (b+d)) (c (b+d+1))≠0 then 1 else 0):=rfl;rw [show b+(d+1)=b+d+1 from rfl] at g⊢;have s:¬ltW a w (c (b+d+1)) (c b):=fun e=>j (e.le_right i);refine ⟨?_,s⟩;by_cases f:o (c (b+d)) (c (b+d+1))=0;have n:=(l _ _).1 f;rw [g,zBw (by simpa using f),zBq,r];exact ⟨fun e=>e.eq_right n,fun e=>e.eq_right n.symm⟩;rw [g,zBx f];refine ⟨fun _=>?_,fun _=>by omega⟩;have k:ltW a w (c (b+d)) (c (b+d+1)):=(by rcases mQ (a:=a) w (c (b+d)) (c (b+d+1)) with e | e | e;exact e;exact absurd ((l _ _).2 e) f;exact absurd e j);rcases mQ (a:=a) w (c b) (c (b+d)) with e | e | e;exact e.trans k;exact ltW.eq_left e k;exact absurd e i
end
def aD7 {l:List Nat} {w b c:Nat} (n:l.length<=w) (i:b < l.length) (k:c < l.length) (j:b≠c):¬eqW (aN l) w b c:=by
 intro f;rcases zBe b c with g | g;have e:=f (l.length - c) oM;rw [kE (show l.length<=c+(l.length - c) by omega)] at e;have:=gK (l:=l) (p:=b+(l.length - c)) oM;omega;have e:=f (l.length - b) oM;rw [kE (show l.length<=b+(l.length - b) by omega)] at e;have:=gK (l:=l) (p:=c+(l.length - b)) oM;omega
def aBH {c i:List Nat} {o:Nat->Nat->Int} {g:Nat->Nat} {w:Nat} (J:0 < w) (B:∀b e,o b e=0↔eqW (aN c) w b e) (C:∀b,b+1 < c.length->¬ltW (aN c) w (g (b+1)) (g b))
 (s:i.length=c.length) (A:∀b,b < c.length->i[g b]?=some (cN o g b)) (D:∀f,f < c.length->∃b,b < c.length/\g b=f):RankOk (aN c) (aN i) w:=by
 have L:∀b e,b < c.length->e < c.length->(aN i (g b) < aN i (g e)↔ltW (aN c) w (g b) (g e)):=by intro b e x y;rw [mZ (A b x),mZ (A e y)];rcases zBe b e with H | H;have:=(vP B C b (e - b) oM).1;rw [show b+(e - b)=e by omega] at this;rw [<-this];omega;have r:=vP B C e (b - e) oM;rw [show e+(b - e)=b by omega] at r;have v:=(oQ o g e (b - e)).1;rw [show e+(b - e)=b by omega] at v;exact ⟨fun k=>absurd k oM,fun k=>absurd k r.2⟩
 intro f n;rcases zBe f c.length with q | q;obtain ⟨b,x,rfl⟩:=D f q;rcases zBe n c.length with j | j;obtain ⟨e,y,rfl⟩:=D n j;exact L b e x y;have r:=gK (l:=i) (p:=g b) (by rw [s];exact q);have v:=kE (l:=i) (p:=n) (by rw [s];exact j);refine ⟨fun k=>absurd k oM,fun ⟨z,K,E,u⟩=>?_⟩;exfalso;have M:=gK (l:=c) (p:=g b) q;rcases z with _ | z;rw [zBq,zBq,kE j] at u;omega;have:=E 0 oM;rw [zBq,zBq,kE j] at this;omega;have v:=kE (l:=i) (p:=f) (by rw [s];exact q);rcases zBe n c.length with j | j;have r:=gK (l:=i) (p:=n) (by rw [s];exact j);refine ⟨fun _=>⟨0,J,fun m I=>absurd I oM,?_⟩,fun _=>by omega⟩;rw [zBq,zBq,kE q];have:=gK (l:=c) (p:=n) j;omega;have r:=kE (l:=i) (p:=n) (by rw [s];exact j);refine ⟨fun k=>absurd k oM,fun ⟨z,K,E,u⟩=>?_⟩;rw [kE oM,kE oM] at u;exact absurd u oM
def aE8 {a:Nat->Int} {o:Nat->Nat->Int} {e:Nat->Nat} {w f:Nat} (l:∀b c,o b c=0↔eqW a w b c) (n:∀b,b+1 < f->¬ltW a w (e (b+1)) (e b)) (u:0 < f) (s:cN o e (f - 1)=f - 1) (b c:Nat) (q:b < c) (r:c < f):ltW a w (e b) (e c):=by
 have i:=oQ o e 0 b;have j:=oQ o e b (c - b);have k:=oQ o e c (f - 1 - c);have p:cN o e 0=0:=rfl;rw [zBi] at i;rw [show b+(c - b)=c by omega] at j;rw [show c+(f - 1 - c)=f - 1 by omega] at k;have g:=(vP l n b (c - b) oM).1;rw [show b+(c - b)=c by omega] at g;exact g.1 oM
def aEr {o:Nat->Nat->Int} {c:Nat->Nat} {n:Nat} (e:∀b,b+1 < n->o (c b) (c (b+1))≠0) (b:Nat) (f:b < n):cN o c b=b:=by
 induction b with
 | zero=>rfl
 | succ b g=>
   show cN o c b+_=_;rw [zBx (e b f),g oM]
def aAl (b:List Nat):RankOk (aN b) (aN b) 1:=by
 intro j k;constructor;intro c;exact ⟨0,by omega,fun m f=>absurd f oM,c⟩;rintro ⟨g,i,_,e⟩;have:g=0:=oM;subst this;exact e
end
section
open Go.RowKit
structure OrdAt (W:World) (gw gn gr:Nat) (w n:Nat) (A:Option Addr) (c:Nat) (R:List Nat):Prop where
 wide:W.cell? gw=some (.int .i64 (w:Int))
 len:W.cell? gn=some (.int .i64 (n:Int))
 rank:W.cell? gr=some (.slice A n c)
 rd:Rd W W.heap.size 1 A n (R.map sv)
def OrdAt.drewN {f:World} {k i j w l g:Nat} {c:Option Addr} {e:List Nat} (b:OrdAt f k i j w l c g e) (n:Nat):OrdAt (f.drewN n) k i j w l c g e:=⟨b.wide,b.len,b.rank,b.rd⟩
def OrdAt.at {j:World} {r p q w l n:Nat} {g:Option Addr} {i:List Nat} (s:OrdAt j r p q w l g n i) {f:Nat} (v:f < l):∃(b c e:Nat),g=some ⟨b,c,none⟩/\i[f]?=some e/\j.cell? ⟨b,c+f,none⟩=some (.int .i64 (e:Int)):=by
 obtain ⟨b,c,z,rfl,y,k,u⟩:=s.rd.get v;rw [zAf] at k;obtain ⟨e,x,rfl⟩:=Option.map_eq_some_iff.1 k;exact ⟨b,c,e,rfl,x,u⟩
def tZ (q k n w e u:Nat) (s:Option Addr) (g:List Nat) (c:Nat) (j:World) (b:OrdAt j q k n w e s u g) (K:w<=1000) (J:e<=1000) (I:c < e):
 Calls prog 152 #[(c:Int),q,k,n] j fun v w'=>v=.returned (.int .i64 (aN g (c+w)))/\∃z,w'=j.drewN z:=by
 have E:g.length=e:=by simpa using b.rd.1
 have B:=b.wide;have C:=b.len;have D:=b.rank;by_cases x:c+w < e
 · have y:(c:Int)+(w:Int) < (e:Int):=oM;obtain ⟨A,L,M,rfl,r,H⟩:=b.at x;have f:=mZ r;have i:=lhd f;clear r b f;go_enter func152,ntmps152;go_wp2;go_ret;exact ⟨by rw [i.out];first | rfl | simp_all,0,rfl⟩
 · have y:¬((c:Int)+(w:Int) < (e:Int)):=oM;have f:=kE (l:=g) (p:=c+w) oM;have i:=lhd f;clear b f;go_enter func152,ntmps152;go_wp2;go_ret;exact ⟨by rw [i.out];rfl,0,rfl⟩
def tY (p n k N w g A:Nat) (T:Option Addr) (b:List Nat) (i j:Nat) (f:World) (c:OrdAt f p n k w g T A b) (a5:f.cell? N=some (.func (.func 152) #[] #[p,n,k])) (Q:w<=1000) (P:g<=1000) (u:∀a0∈b,a0<=1000) (R:i < g) (S:j < g):
 Calls prog 153 #[(i:Int),(j:Int),k,N] f fun q w'=>q=.returned (.int .i64 (gW (aN b) w i j))/\∃e,w'=f.drewN e:=by
 have a3:=c.rank;have K:=lhd c;obtain ⟨a1,aa,r,O,D,a6⟩:=c.at R;obtain ⟨a2,ab,e,s,l,a7⟩:=c.at S;rw [O] at s;injection s with s;injection s with e1 e2;subst e1 e2;have a8:=u r (zAd D);have a9:=u e (zAd l);have L:=mZ D;have M:=mZ l;have y:∀E,-1<=aN b E/\aN b E<=1000:=by
  intro E;unfold aN;split
  · next z hz=>
    have:=u z (zAd hz);omega
  omega
 have b1:=y (i+w);have b2:=y (j+w);have C:gW (aN b) w i j=if (r:Int)≠(e:Int) then (r:Int) -(e:Int) else aN b (i+w) - aN b (j+w):=by unfold gW;rw [L,M]
 obtain ⟨H,v⟩:=eqx (aN b (i+w));obtain ⟨I,x⟩:=eqx (aN b (j+w));rw [v,x] at C;rw [v] at b1;rw [x] at b2;rw [C];subst O;obtain ⟨U,V⟩:=hqq2 v x;clear c D l L M y C v x u;by_cases X:r=e
 · subst X;rw [zBw (by simp)];go_enter func153,ntmps153;go_wp2;go_quiet (fail);go_wp2;have Y:∀m:Nat,Calls prog 152 #[(i:Int),p,n,k] (f.drewN (nq+m)) fun q J=>q=.returned (.int .i64 H)/\∃g,J=f.drewN (nq+g):=fun m=>by have c:=tZ p n k w g A _ b i (f.drewN (nq+m)) (K.out.drewN _) Q P R;rw [U.out] at c;exact c.mono fun _ _ ⟨B,e,l⟩=>⟨B,m+e,by rw [l,World.drewN_drewN,Nat.add_assoc]⟩
   have Z:∀m:Nat,Calls prog 152 #[(j:Int),p,n,k] (f.drewN (nq+m)) fun q J=>q=.returned (.int .i64 I)/\∃g,J=f.drewN (nq+g):=fun m=>by have c:=tZ p n k w g A _ b j (f.drewN (nq+m)) (K.out.drewN _) Q P S;rw [V.out] at c;exact c.mono fun _ _ ⟨B,e,l⟩=>⟨B,m+e,by rw [l,World.drewN_drewN,Nat.add_assoc]⟩
   have a4:IntKind.i64.wrap (H - I)=H - I:=(by rw [IntKind.wrap_i64];omega);go_quiet ((first |(with_reducible exact Y _)|(with_reducible exact Z _)));go_wp2;go_ret;exact ⟨cT (by first | omega | rfl),_,World.drewN_drewN _ _ _⟩
 · have W:¬((r:Int)=(e:Int)):=oM;rw [zBx W];go_enter func153,ntmps153;go_wp2;go_quiet (fail);go_wp2;go_quiet (fail);go_wp2;go_ret;exact ⟨cT oM,_,World.drewN_drewN _ _ _⟩
end
section
open Go.RowKit Go Go.Sort
def sufLt (b:List Nat) (c e:Nat):Prop:=∃w,ltW (aN b) w c e
def vA {a:Nat->Int} {w w' b c:Nat} (e:ltW a w b c) (j:w<=w'):ltW a w' b c:=by
 obtain ⟨g,i,f⟩:=e;exact ⟨g,by omega,f⟩
def sufLt.asymm {e:List Nat} {f g:Nat} (b:sufLt e f g) (c:sufLt e g f):False:=by
 obtain ⟨w,b⟩:=b;obtain ⟨w',c⟩:=c;exact (vA b (Nat.le_max_left w w')).asymm (vA c (Nat.le_max_right w w'))
def sufLt.trans {e:List Nat} {f g i:Nat} (b:sufLt e f g) (c:sufLt e g i):sufLt e f i:=by
 obtain ⟨w,b⟩:=b;obtain ⟨w',c⟩:=c;exact ⟨_,(vA b (Nat.le_max_left w w')).trans (vA c (Nat.le_max_right w w'))⟩
structure IsSuf (l rs:List Nat):Prop where
 perm:rs.Perm (List.range l.length)
 sorted:rs.Pairwise (sufLt l)
def IsSuf.len {b c:List Nat} (e:IsSuf b c):c.length=b.length:=by simpa using e.perm.length_eq
def IsSuf.lt {b e:List Nat} (f:IsSuf b e) {c:Nat} (g:c∈e):c < b.length:=by simpa using f.perm.mem_iff.1 g
def IsSuf.mem {b e:List Nat} (f:IsSuf b e) {c:Nat} (g:c < b.length):c∈e:=f.perm.mem_iff.2 (by simpa using g)
def IsSuf.nodup {e b:List Nat} (c:IsSuf e b):b.Nodup:=c.perm.nodup_iff.2 List.nodup_range
def IsSuf.unique {b f g:List Nat} (c:IsSuf b f) (e:IsSuf b g):f=g:=by
 refine List.Perm.eq_of_pairwise (le:=sufLt b) ?_ c.sorted e.sorted (c.perm.trans e.perm.symm);intro a k _ _ i j;exact (i.asymm j).elim
def dP (m:Nat) (b:Fin (m+1)):Value:=.int .i64 ((b.val:Nat):Int)
def jB (m:Nat) (b:Fin (m+1)):(dP m b).oneCell'=true:=rfl
section
variable {α : Type} [Inhabited α] {enc : α -> Value} {w : World} {blk : Nat} {t : TypeId} {d d' : Array α}
def xZ (d:Array α) (b:Nat) (c:b < d.size):d[b]! =d[b]:=getElem!_pos d b c
def uT (e:d'.size=d.size):putCells enc 0 d' (d.map enc)=d'.map enc:=by
 apply Array.ext
 · simp [putCells,e]
 · intro f g b;have c:f < d'.size:=(by simpa using b);simp [putCells,c,xZ]
def aDS (b:Bk w blk t (d.map enc)) (g:d'.size=d.size) (c:Nat) (i:Array Obj):Bk (sortWorld enc w blk 0 c d' i) blk t (d'.map enc):=by
 have f:=b.lt;unfold Bk at b⊢;have e:(putRow enc (Sort.ahead w c) blk 0 d').heap[blk]?=some (.cells (d'.map enc) t (0,0)):=by show (w.heap.modify blk _)[blk]?=_;rw [Array.getElem?_modify,zBx rfl,b];simp only [Option.map_some,onCells];rw [uT g]
 unfold sortWorld;rw [heap_grow_old _ _ (by show blk < (w.heap.modify blk _).size;simpa using f)];exact e
def gI (l:blk < w.heap.size) (k j:Nat) (d':Array α) (c:Array Obj):Keep (fun e=>e=blk) w (sortWorld enc w blk k j d' c):=by
 refine ⟨rfl,rfl,rfl,?_,fun b g i=>?_⟩
 · show w.heap.size<=((w.heap.modify blk _)++c).size;simp
 · unfold sortWorld;rw [heap_grow_old _ _ (by show b < (w.heap.modify blk _).size;simpa using g)];show (w.heap.modify blk _)[b]?=_;rw [Array.getElem?_modify,zBw (fun f=>i f.symm)]
def aDB (b:Bk w blk t (d.map enc)):Holds enc w blk 0 d:=by
 intro e c;rw [zBi];refine ⟨?_,b.frozen e⟩;rw [b.cell];simp [c,xZ]
end
def qD {α:Type} [Inhabited α] {d d':Array α} (b:PermIn 0 d.size d d'):d'.toList.Perm d.toList:=by
 have f:=b.2.2;have c:d'.extract 0 d.size=d':=by rw [<-b.1];exact Array.extract_size
 have e:d.extract 0 d.size=d:=Array.extract_size;rwa [c,e] at f
def cZ {m:Nat} (d:Array (Fin (m+1))) (b:Nat):Nat:=(d[b]!).val
structure RowsOk (m:Nat) (d:Array (Fin (m+1))):Prop where
 size:d.size=m+1
 perm:d.toList.Perm (List.finRange (m+1))
def iH {m:Nat} {d:Array (Fin (m+1))} {i:Nat} (b:i < d.size):(d.toList.map (·.val))[i]?=some (cZ d i):=by
 rw [zAf,Array.getElem?_toList,zAq b];simp [cZ,xZ d i b]
section
variable {m : Nat} {d : Array (Fin (m + 1))}
def RowsOk.lt (c:RowsOk m d) (b:Nat):cZ d b < m+1:=(d[b]!).isLt
def RowsOk.vals (e:RowsOk m d):(d.toList.map (·.val)).Perm (List.range (m+1)):=by
 have b:=e.perm.map (·.val);have c:(List.finRange (m+1)).map (·.val)=List.range (m+1):=by
  apply List.ext_getElem
  · simp
  · intro g b f;simp
 rwa [c] at b
def RowsOk.nodup (b:RowsOk m d):(d.toList.map (·.val)).Nodup:=b.vals.nodup_iff.2 List.nodup_range
def RowsOk.inj (b:RowsOk m d) {i j:Nat} (c:i < m+1) (f:j < m+1) (e:cZ d i=cZ d j):i=j:=by
 refine (List.getElem?_inj (l:=d.toList.map (·.val)) (by simpa [b.size] using c) b.nodup).1 ?_;rw [iH (by rw [b.size];exact c),iH (by rw [b.size];exact f),e]
def RowsOk.sur (e:RowsOk m d) {p:Nat} (l:p < m+1):∃b,b < m+1/\cZ d b=p:=by
 have j:p∈d.toList.map (·.val):=e.vals.mem_iff.2 (by simpa using l);obtain ⟨b,f,k⟩:=List.getElem_of_mem j;have g:b < m+1:=by simpa [e.size] using f
 refine ⟨b,g,?_⟩;have c:=iH (d:=d) (i:=b) (by rw [e.size];exact g);rw [zAa f,k] at c;injection c with c;exact c.symm
def RowsOk.cell (c:RowsOk m d) {b:Nat} (e:b < m+1):(d.map (dP m))[b]?=some (.int .i64 ((cZ d b:Nat):Int)):=by
 have:b < d.size:=by rw [c.size];exact e
 simp [dP,cZ,this,xZ]
def RowsOk.of_perm {d':Array (Fin (m+1))} (b:RowsOk m d) (c:PermIn 0 d.size d d'):RowsOk m d':=
 ⟨c.1.trans b.size,(qD c).trans b.perm⟩
def RowsOk.suf (e:RowsOk m d) {l:List Nat} (r:l.length=m+1) {w:Nat} (s:∀b c,b < c->c < m+1->ltW (aN l) w (cZ d b) (cZ d c)):IsSuf l (d.toList.map (·.val)):=by
 refine ⟨by rw [r];exact e.vals,?_⟩;rw [zAr];intro b c j k q;have p:b < m+1:=by simpa [e.size] using j
 have n:c < m+1:=by simpa [e.size] using k
 have f:=iH (d:=d) (i:=b) (by rw [e.size];exact p);have g:=iH (d:=d) (i:=c) (by rw [e.size];exact n);rw [zAa j] at f;rw [zAa k] at g;injection f with f;injection g with g;rw [f,g];exact ⟨w,s b c q n⟩
end
def pX (m:Nat):Array (Fin (m+1)):=(List.finRange (m+1)).toArray
def aCM (m:Nat):RowsOk m (pX m):=⟨by simp [pX],by simp [pX]⟩
def aCU {c:Nat} {cs:Array Value} {f:Nat->Nat} {v:Nat->Nat} (B:c<=cs.size) (u:∀b,b < c->f b < c) (s:∀b,b < c->cs[f b]?=some (.int .i64 ((v b:Nat):Int))) (x:∀j,j < c->∃e,e < c/\f e=j):
 ∃k:List Nat,k.length=c/\(∀b,b < c->k[f b]?=some (v b))/\(∀(b:Nat) p,(k.map sv)[b]?=some p->cs[b]?=some p)/\∀y∈k,∃b,b < c/\y=v b:=by
 let r:Nat->Nat:=fun j=>match cs[j]? with
  | some (.int _ q)=>q.toNat
  | _=>0
 have l:∀b,b < c->r (f b)=v b:=by intro b i;show (match cs[f b]? with | some (.int _ q)=>q.toNat | _=>0)=v b;rw [s b i];simp
 refine ⟨(List.range c).map r,by simp,fun b i=>?_,fun b p n=>?_,fun y A=>?_⟩
 · simp [u b i,l b i]
 have i:b < c:=(by have:=(zAc.1 n).1;simpa using this);obtain ⟨e,g,rfl⟩:=x b i;simp [u e g,l e g] at n;rw [s e g,<-n];rfl;obtain ⟨j,z,rfl⟩:=zAy.1 A;obtain ⟨e,g,rfl⟩:=x j (by simpa using z);exact ⟨e,g,l e g⟩
def cfF (m w:Nat) (b:List Nat) (c e:Fin (m+1)):Int:=gW (aN b) w c.val e.val
def aEK {g e:List Nat} {w:Nat} (m:Nat) (b:RankOk (aN g) (aN e) w):SWO (ltOf (cfF m w e)) where
 irrefl x:=by unfold ltOf cfF;rw [decide_eq_false_iff_not,pB b];exact fun b=>b.irrefl
 trans x y z h1 h2:=by
  unfold ltOf cfF at*
  rw [decide_eq_true_iff,pB b] at*
  exact h1.trans h2
 ntrans x y z h1 h2:=by
  unfold ltOf cfF at*
  rw [decide_eq_false_iff_not,pB b] at*
  intro f;rcases mQ (a:=aN g) (w+w) x.val y.val with c | c | c;exact h1 c;exact h2 (ltW.eq_left c.symm f);exact h2 (c.trans f)
def aCC {f e:List Nat} {w m:Nat} {d:Array (Fin (m+1))} (g:RankOk (aN f) (aN e) w) (k:d.size=m+1) (j:SortedIn (ltOf (cfF m w e)) 0 (m+1) d) (b:Nat) (i:b+1 < m+1):¬ltW (aN f) (w+w) (cZ d (b+1)) (cZ d b):=by
 have c:=j b (b+1) (zAp _) oM i;unfold ltOf cfF at c;rw [decide_eq_false_iff_not,pB g] at c;exact c
end
end Go.Proofs.YtnmapianpjamnaaGreatDoor
