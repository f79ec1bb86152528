/- Parts of the walk, joined from several texts. Conditions: what each lemma says. -/
import Derived.Test.YtnhmjomhloainaaGreatDoorPq8
import Derived.Laws.Rows
import Derived.BigQuiet
set_option linter.all false
set_option maxRecDepth 100000
set_option maxHeartbeats 1000000
namespace Go.Proofs.YtnhmjomhloainaaGreatDoor
def aN (l:List Nat) (p:Nat):Int:=match l[p]? with
 | some x=>(x:Int)
 | none=>-1
theorem aH7 {l:List Nat} {p:Nat} (h:p < l.length):aN l p=(l[p]:Int):=by
 unfold aN;rw [zAa h]
theorem jS {l:List Nat} {p x:Nat} (h:l[p]?=some x):aN l p=(x:Int):=by
 unfold aN;rw [h]
theorem lR {l:List Nat} {p:Nat} (h:l.length<=p):aN l p=-1:=by
 unfold aN;rw [zBg h]
theorem iY {l:List Nat} {p:Nat} (h:p < l.length):0<=aN l p:=by
 rw [aH7 h];omega
section
variable (a : Nat -> Int)
def eqW (w i j:Nat):Prop:=∀m,m < w->a (i+m)=a (j+m)
def ltW (w i j:Nat):Prop:=∃k,k < w/\(∀m,m < k->a (i+m)=a (j+m))/\a (i+k) < a (j+k)
variable {a}
theorem eqW.symm {w i j:Nat} (h:eqW a w i j):eqW a w j i:=fun m hm=>(h m hm).symm
theorem eqW.trans {w i j k:Nat} (h:eqW a w i j) (h':eqW a w j k):eqW a w i k:=fun m hm=>(h m hm).trans (h' m hm)
theorem eqW.refl (w i:Nat):eqW a w i i:=fun _ _=>rfl
theorem nI (w i j:Nat):ltW a w i j∨eqW a w i j∨ltW a w j i:=by
 induction w with
 | zero=>exact .inr (.inl fun m hm=>absurd hm oM)
 | succ w ih=>
   rcases ih with ⟨k,h1,h2⟩| h |⟨k,h1,h2⟩;exact .inl ⟨k,by omega,h2⟩;rcases Int.lt_trichotomy (a (i+w)) (a (j+w)) with h1 | h1 | h1;exact .inl ⟨w,by omega,h,h1⟩;refine .inr (.inl fun m hm=>?_);rcases zBe m w with h2 | h2;exact h m h2;have:m=w:=oM;subst this;exact h1;exact .inr (.inr ⟨w,by omega,h.symm,h1⟩);exact .inr (.inr ⟨k,by omega,h2⟩)
theorem ltW.not_eq {w i j:Nat} (h:ltW a w i j):¬eqW a w i j:=by
 obtain ⟨k,h1,h2,h3⟩:=h;intro he;have:=he k h1;omega
theorem ltW.trans {w i j k:Nat} (h:ltW a w i j) (h':ltW a w j k):ltW a w i k:=by
 obtain ⟨p,p1,p2,p3⟩:=h;obtain ⟨q,q1,q2,q3⟩:=h';rcases Nat.lt_trichotomy p q with e | e | e;exact ⟨p,p1,fun m hm=>(p2 m hm).trans (q2 m oM),by rw [<-q2 p e];exact p3⟩;subst e;exact ⟨p,p1,fun m hm=>(p2 m hm).trans (q2 m hm),Int.lt_trans p3 q3⟩;exact ⟨q,q1,fun m hm=>(p2 m oM).trans (q2 m hm),by rw [p2 q e];exact q3⟩
theorem ltW.irrefl {w i:Nat} (h:ltW a w i i):False:=h.not_eq (eqW.refl _ _)
theorem ltW.asymm {w i j:Nat} (h:ltW a w i j) (h':ltW a w j i):False:=(h.trans h').irrefl
theorem ltW.eq_right {w i j k:Nat} (h:ltW a w i j) (h':eqW a w j k):ltW a w i k:=by
 obtain ⟨p,p1,p2,p3⟩:=h;exact ⟨p,p1,fun m hm=>(p2 m hm).trans (h' m oM),by rw [<-h' p p1];exact p3⟩
theorem ltW.eq_left {w i j k:Nat} (h':eqW a w i j) (h:ltW a w j k):ltW a w i k:=by
 obtain ⟨p,p1,p2,p3⟩:=h;exact ⟨p,p1,fun m hm=>(h' m oM).trans (p2 m hm),by rw [h' p p1];exact p3⟩
theorem ltW.le_right {w i j k:Nat} (h:ltW a w i j) (h':¬ltW a w k j):ltW a w i k:=by
 rcases nI (a:=a) w j k with h1 | h1 | h1;exact h.trans h1;exact h.eq_right h1;exact absurd h1 h'
theorem aDd (w i j:Nat):eqW a (w+w) i j↔eqW a w i j/\eqW a w (i+w) (j+w):=by
 constructor
 · intro h;refine ⟨fun m hm=>h m oM,fun m hm=>?_⟩;have:=h (w+m) oM;rwa [<-Nat.add_assoc,<-Nat.add_assoc] at this
 · intro ⟨h1,h2⟩ m hm;rcases zBe m w with h | h;exact h1 m h
   · have:=h2 (m - w) oM;rwa [show i+w+(m - w)=i+m by omega,show j+w+(m - w)=j+m by omega] at this
theorem aC1 (w i j:Nat):ltW a (w+w) i j↔ltW a w i j∨(eqW a w i j/\ltW a w (i+w) (j+w)):=by
 constructor
 · intro ⟨k,h1,h2,h3⟩;rcases zBe k w with h | h;exact .inl ⟨k,h,h2,h3⟩
   · refine .inr ⟨fun m hm=>h2 m oM,k - w,by omega,fun m hm=>?_,?_⟩
     · have:=h2 (w+m) oM;rwa [<-Nat.add_assoc,<-Nat.add_assoc] at this
     · rwa [show i+w+(k - w)=i+k by omega,show j+w+(k - w)=j+k by omega]
 · rintro (⟨k,h1,h2,h3⟩|⟨h0,k,h1,h2,h3⟩);exact ⟨k,by omega,h2,h3⟩
   · refine ⟨w+k,by omega,fun m hm=>?_,by rwa [<-Nat.add_assoc,<-Nat.add_assoc]⟩;rcases zBe m w with h | h;exact h0 m h
     · have:=h2 (m - w) oM;rwa [show i+w+(m - w)=i+m by omega,show j+w+(m - w)=j+m by omega] at this
def RankOk (a r:Nat->Int) (w:Nat):Prop:=∀i j,r i < r j↔ltW a w i j
theorem RankOk.eq {r:Nat->Int} {w:Nat} (h:RankOk a r w) (i j:Nat):r i=r j↔eqW a w i j:=by
 constructor;intro e;rcases nI (a:=a) w i j with h1 | h1 | h1;have:=(h i j).2 h1;omega;exact h1;have:=(h j i).2 h1;omega;intro e;have h1:¬(r i < r j):=fun x=>((h i j).1 x).not_eq e;have h2:¬(r j < r i):=fun x=>((h j i).1 x).not_eq e.symm;omega
def jI (r:Nat->Int) (w i j:Nat):Int:=if r i≠r j then r i - r j else r (i+w) - r (j+w)
theorem tM {r:Nat->Int} {w:Nat} (h:RankOk a r w) (i j:Nat):jI r w i j < 0↔ltW a (w+w) i j:=by
 unfold jI;rw [aC1];by_cases e:r i=r j
 · rw [zBw (by simpa using e)];have h1:¬ltW a w i j:=fun x=>by have:=(h i j).2 x;omega
   have h2:=(h.eq i j).1 e;have h3:=h (i+w) (j+w);constructor;intro h4;exact .inr ⟨h2,h3.1 oM⟩;rintro (h4 |⟨_,h4⟩);exact absurd h4 h1;have:=h3.2 h4;omega
 rw [zBx e];have h3:=h i j;constructor;intro h4;exact .inl (h3.1 oM);rintro (h4 |⟨h4,_⟩);have:=h3.2 h4;omega;exact absurd ((h.eq i j).2 h4) e
theorem aHu {r:Nat->Int} {w:Nat} (h:RankOk a r w) (i j:Nat):jI r w i j=0↔eqW a (w+w) i j:=by
 unfold jI;rw [aDd];by_cases e:r i=r j;rw [zBw (by simpa using e)];constructor;intro h4;exact ⟨(h.eq i j).1 e,(h.eq _ _).1 oM⟩;intro ⟨_,h4⟩;have:=(h.eq _ _).2 h4;omega;rw [zBx e];constructor;intro h4;exact absurd (show r i=r j by omega) e;intro ⟨h4,_⟩;exact absurd ((h.eq i j).2 h4) e
def cN (o:Nat->Nat->Int) (f:Nat->Nat):Nat->Nat
 | 0=>0
 | i+1=>cN o f i+(if o (f i) (f (i+1))≠0 then 1 else 0)
theorem aHQ (o:Nat->Nat->Int) (f:Nat->Nat) (i:Nat):cN o f i<=cN o f (i+1)/\cN o f (i+1)<=cN o f i+1:=by
 show cN o f i<=cN o f i+_/\cN o f i+_<=cN o f i+1;split <;> omega
theorem sH (o:Nat->Nat->Int) (f:Nat->Nat) (i d:Nat):cN o f i<=cN o f (i+d)/\cN o f (i+d)<=cN o f i+d:=by
 induction d with
 | zero=>exact ⟨zAs _,zAs _⟩
 | succ d ih=>
   have:=aHQ o f (i+d);rw [<-Nat.add_assoc];omega
theorem aAn {o:Nat->Nat->Int} {f:Nat->Nat} {w n:Nat} (ho:∀i j,o i j=0↔eqW a w i j) (hs:∀i,i+1 < n->¬ltW a w (f (i+1)) (f i)) (i d:Nat) (hn:i+d < n):
 (cN o f i < cN o f (i+d)↔ltW a w (f i) (f (i+d)))/\¬ltW a w (f (i+d)) (f i):=by
 induction d with
 | zero=>exact ⟨⟨fun h=>absurd h (by simp),fun h=>h.irrefl.elim⟩,fun h=>h.irrefl⟩
 | succ d ih=>
   obtain ⟨h1,h2⟩:=ih oM;have h3:=hs (i+d) oM;have hm:=sH o f i d;have he:cN o f (i+(d+1))=cN o f (i+d)+(if o (f (i+d)) (f (i+d+1))≠0 then 1 else 0):=rfl;rw [show i+(d+1)=i+d+1 from rfl] at he⊢;have h4:¬ltW a w (f (i+d+1)) (f i):=fun h=>h3 (h.le_right h2);refine ⟨?_,h4⟩;by_cases hz:o (f (i+d)) (f (i+d+1))=0;have hq:=(ho _ _).1 hz;rw [he,zBw (by simpa using hz),zBq,h1];exact ⟨fun h=>h.eq_right hq,fun h=>h.eq_right hq.symm⟩;rw [he,zBx hz];refine ⟨fun _=>?_,fun _=>by omega⟩;have h5:ltW a w (f (i+d)) (f (i+d+1)):=(by rcases nI (a:=a) w (f (i+d)) (f (i+d+1)) with h | h | h;exact h;exact absurd ((ho _ _).2 h) hz;exact absurd h h3);rcases nI (a:=a) w (f i) (f (i+d)) with h | h | h;exact h.trans h5;exact ltW.eq_left h h5;exact absurd h h2
end
theorem aDO {l:List Nat} {w i j:Nat} (hw:l.length<=w) (hi:i < l.length) (hj:j < l.length) (hij:i≠j):¬eqW (aN l) w i j:=by
 intro h;rcases zBe i j with e | e;have h1:=h (l.length - j) oM;rw [lR (show l.length<=j+(l.length - j) by omega)] at h1;have:=iY (l:=l) (p:=i+(l.length - j)) oM;omega;have h1:=h (l.length - i) oM;rw [lR (show l.length<=i+(l.length - i) by omega)] at h1;have:=iY (l:=l) (p:=j+(l.length - i)) oM;omega
theorem aEy {l R:List Nat} {o:Nat->Nat->Int} {f:Nat->Nat} {w:Nat} (hw:0 < w) (ho:∀i j,o i j=0↔eqW (aN l) w i j) (hs:∀i,i+1 < l.length->¬ltW (aN l) w (f (i+1)) (f i))
 (hlen:R.length=l.length) (hR:∀i,i < l.length->R[f i]?=some (cN o f i)) (hsur:∀p,p < l.length->∃i,i < l.length/\f i=p):RankOk (aN l) (aN R) w:=by
 have main:∀i j,i < l.length->j < l.length->(aN R (f i) < aN R (f j)↔ltW (aN l) w (f i) (f j)):=by intro i j hi hj;rw [jS (hR i hi),jS (hR j hj)];rcases zBe i j with e | e;have:=(aAn ho hs i (j - i) oM).1;rw [show i+(j - i)=j by omega] at this;rw [<-this];omega;have h1:=aAn ho hs j (i - j) oM;rw [show j+(i - j)=i by omega] at h1;have h2:=(sH o f j (i - j)).1;rw [show j+(i - j)=i by omega] at h2;exact ⟨fun h=>absurd h oM,fun h=>absurd h h1.2⟩
 intro p q;rcases zBe p l.length with hp | hp;obtain ⟨i,hi,rfl⟩:=hsur p hp;rcases zBe q l.length with hq | hq;obtain ⟨j,hj,rfl⟩:=hsur q hq;exact main i j hi hj;have h1:=iY (l:=R) (p:=f i) (by rw [hlen];exact hp);have h2:=lR (l:=R) (p:=q) (by rw [hlen];exact hq);refine ⟨fun h=>absurd h oM,fun ⟨k,k1,k2,k3⟩=>?_⟩;exfalso;have h3:=iY (l:=l) (p:=f i) hp;rcases k with _ | k;rw [zBq,zBq,lR hq] at k3;omega;have:=k2 0 oM;rw [zBq,zBq,lR hq] at this;omega;have h2:=lR (l:=R) (p:=p) (by rw [hlen];exact hp);rcases zBe q l.length with hq | hq;have h1:=iY (l:=R) (p:=q) (by rw [hlen];exact hq);refine ⟨fun _=>⟨0,hw,fun m hm=>absurd hm oM,?_⟩,fun _=>by omega⟩;rw [zBq,zBq,lR hp];have:=iY (l:=l) (p:=q) hq;omega;have h1:=lR (l:=R) (p:=q) (by rw [hlen];exact hq);refine ⟨fun h=>absurd h oM,fun ⟨k,k1,k2,k3⟩=>?_⟩;rw [lR oM,lR oM] at k3;exact absurd k3 oM
theorem aIy {a:Nat->Int} {o:Nat->Nat->Int} {f:Nat->Nat} {w n:Nat} (ho:∀i j,o i j=0↔eqW a w i j) (hs:∀i,i+1 < n->¬ltW a w (f (i+1)) (f i)) (hn:0 < n) (hl:cN o f (n - 1)=n - 1) (i j:Nat) (hij:i < j) (hj:j < n):ltW a w (f i) (f j):=by
 have h1:=sH o f 0 i;have h2:=sH o f i (j - i);have h3:=sH o f j (n - 1 - j);have h0:cN o f 0=0:=rfl;rw [zBi] at h1;rw [show i+(j - i)=j by omega] at h2;rw [show j+(n - 1 - j)=n - 1 by omega] at h3;have h4:=(aAn ho hs i (j - i) oM).1;rw [show i+(j - i)=j by omega] at h4;exact h4.1 oM
theorem aHR {o:Nat->Nat->Int} {f:Nat->Nat} {n:Nat} (h:∀i,i+1 < n->o (f i) (f (i+1))≠0) (i:Nat) (hi:i < n):cN o f i=i:=by
 induction i with
 | zero=>rfl
 | succ i ih=>
   show cN o f i+_=_;rw [zBx (h i hi),ih oM]
theorem aCL (l:List Nat):RankOk (aN l) (aN l) 1:=by
 intro i j;constructor;intro h;exact ⟨0,by omega,fun m hm=>absurd hm oM,h⟩;rintro ⟨k,h1,_,h3⟩;have:k=0:=oM;subst this;exact h3
end Go.Proofs.YtnhmjomhloainaaGreatDoor
namespace Go.Proofs.YtnhmjomhloainaaGreatDoor
open Go.RowKit
@[irreducible] def wcells (S:Nat->Value) (n v:Int):Array Value:=#[S 0,S 1,S 2,S 3,S 4,S 5,S 6,S 7,S 8,.int .i64 n,.int .i64 v]
theorem bH (S:Nat->Value) (n v:Int):(wcells S n v)[0]?=some (S 0)/\(wcells S n v)[1]?=some (S 1)/\(wcells S n v)[2]?=some (S 2)/\(wcells S n v)[3]?=some (S 3)/\(wcells S n v)[4]?=some (S 4)/\(wcells S n v)[5]?=some (S 5)/\(wcells S n v)[6]?=some (S 6)/\(wcells S n v)[7]?=some (S 7)/\(wcells S n v)[8]?=some (S 8)/\(wcells S n v)[9]?=some (.int .i64 n)/\(wcells S n v)[10]?=some (.int .i64 v):=by
 unfold wcells;exact ⟨rfl,rfl,rfl,rfl,rfl,rfl,rfl,rfl,rfl,rfl,rfl⟩
theorem cI (S:Nat->Value) (n v v':Int):(wcells S n v).setIfInBounds 10 (.int .i64 v')=wcells S n v':=by
 unfold wcells;rfl
theorem qZ (S:Nat->Value) (n v:Int) (i:Nat) (hi:i < 9):(wcells S n v)[i]?=some (S i):=by
 obtain ⟨h0,h1,h2,h3,h4,h5,h6,h7,h8,_⟩:=bH S n v;rcases i with _ | _ | _ | _ | _ | _ | _ | _ | _ | i
 all_goals first | assumption | omega
theorem aCo (S:Nat->Value) (n v:Int) (i:Nat) (hi:i < 9) (u:Value):(wcells S n v).setIfInBounds i u=wcells (fun j=>if j=i then u else S j) n v:=by
 unfold wcells;rcases i with _ | _ | _ | _ | _ | _ | _ | _ | _ | i
 all_goals first | rfl | omega
theorem Vis.waveC {w w':World} {g:Nat} {S:Nat->Value} {n v:Int} (h:Vis w w') (hb:Bk w g 170 (wcells S n v)):∃v',Bk w' g 170 (wcells S n v'):=by
 rcases h.wave hb with h1 |⟨v',h1⟩;exact ⟨v,h1⟩;rw [cI] at h1;exact ⟨v',h1⟩
theorem aE9 (gt gk gb gn:Nat) (lv p:Int) (x:Value) (bs:List Bool) (k:Nat) (b:Bool) (w:World) (ht:TreeAt w gt bs) (hk:Bk w gk 3 #[.int .i64 (k:Int)]) (hb:Bk w gb 4 #[.bool b]) (hn:Bk w gn 3 #[x]) (hkl:k<=bs.length):
 Calls Tryz.prog 194 #[.agg #[.pointer (some ⟨gt,0,none⟩),.int .i64 lv,.int .i64 p],.pointer (some ⟨gk,0,none⟩),.pointer (some ⟨gb,0,none⟩),.pointer (some ⟨gn,0,none⟩)] w fun e w'=>e=.returned (.tuple #[])/\
  ∃w1,VisK (fun b=>b=gt) w w1/\Bk w1 gn 3 #[x]/\w'=w1.setCell ⟨gn,0,none⟩ (.int .i64 (((bs.take k).count b:Nat):Int)):=by
 have c1:w.cell? ⟨gk,0,none⟩=some (.int .i64 (k:Int)):=(hk.cell 0).trans rfl;have c2:w.cell? ⟨gb,0,none⟩=some (.bool b):=(hb.cell 0).trans rfl;have l1:=hk.lt;have l2:=hb.lt;have l3:=hn.lt;obtain ⟨Ht,Hn⟩:=hqq2 ht hn;clear ht hk hb hn;go_enter Tryz.func194,Tryz.ntmps194;go_wp2_with fail;refine (aAs gt bs k b _ (Ht.out.below (bR.alloc nL _)) hkl).mono ?_;rintro e w1 ⟨rfl,hv⟩;have hv0:VisK (fun b=>b=gt) w w1:=(VisK.of_below (bR.alloc nL _)).trans hv;have hn1:=hv0.1.bk Hn.out dC dC;have c3:w1.cell? ⟨gn,0,none⟩=some x:=(hn1.cell 0).trans rfl;have f3:=hn1.frozen 0;obtain ⟨HV,Hn1⟩:=hqq2 hv0 hn1;clear hv hv0 hn1;go_wp2_with fail;go_end0;exact ⟨rfl,w1,HV.out,Hn1.out,rfl⟩
theorem Vis.of_wave {w w':World} {gv:Nat} {S:Nat->Value} {n v v':Int} (k:Keep (fun b=>b=gv) w w') (h:Bk w gv 170 (wcells S n v)) (h':Bk w' gv 170 (wcells S n v')):Vis w w':=by
 refine ⟨k.os,k.tape,k.output,k.size,fun b hb _=>?_⟩;by_cases e:b=gv;subst e;exact .inr (.inr ⟨_,v',h,by rw [cI];exact h'⟩);exact .inl (k.block b hb e)
theorem aFf (gv gt gk gb gn:Nat) (S:Nat->Value) (n v lv p:Int) (x:Value) (bs:List Bool) (k:Nat) (b:Bool) (w:World) (hw:Bk w gv 170 (wcells S n v)) (ht:TreeAt w gt bs) (hk:Bk w gk 3 #[.int .i64 (k:Int)]) (hb:Bk w gb 4 #[.bool b]) (hn:Bk w gn 3 #[x]) (hkl:k<=bs.length):
 Calls Tryz.prog 127 #[.pointer (some ⟨gv,0,none⟩),.agg #[.pointer (some ⟨gt,0,none⟩),.int .i64 lv,.int .i64 p],.func (.func 194) #[] #[.pointer (some ⟨gk,0,none⟩),.pointer (some ⟨gb,0,none⟩),.pointer (some ⟨gn,0,none⟩)]] w fun e w'=>e=.returned (.tuple #[])/\
  VisF (fun b=>b=gn) w w'/\Keep (fun b=>b=gv∨b=gt∨b=gn) w w'/\Bk w' gn 3 #[.int .i64 (((bs.take k).count b:Nat):Int)]:=by
 obtain ⟨o,ho⟩:=eqx (Obj.cells #[.pointer (some ⟨gt,0,none⟩),.int .i64 lv,.int .i64 p] 173);have hal:=(Below.refl w.heap.size w).alloc nL o;have hs1:=Bk.new w 173 #[.pointer (some ⟨gt,0,none⟩),.int .i64 lv,.int .i64 p];rw [ho] at hs1;have l1:=hk.lt;have l2:=hb.lt;have l3:=hn.lt;have l4:=hw.lt;have n1:=Bk.ne hn hw dC;obtain ⟨Ht,Hn,Hk,Hb,Hw,HA,Hs,Ho⟩:=hqq8 ht hn hk hb hw hal hs1 ho;clear ht hk hb hn hw hal hs1 ho;go_enter Tryz.func127,Tryz.ntmps127;go_wp2_with fail;rw [Ho.out];refine (aE9 gt gk gb gn lv p x bs k b _ (Ht.out.below HA.out) (Hk.out.alloc _) (Hb.out.alloc _) (Hn.out.alloc _) hkl).mono ?_;rintro e w2 ⟨rfl,w1,hv1,hn1,rfl⟩;obtain ⟨v1,hw1⟩:=((Vis.of_below HA.out).trans hv1.1).waveC Hw.out;have hw2:=hw1.far (p:=⟨gn,0,none⟩) (fun h=>n1 h.symm) (.int .i64 (((bs.take k).count b:Nat):Int));have ht1:=Ht.out.vis ((Vis.of_below HA.out).trans hv1.1);have ht2:TreeAt (w1.setCell ⟨gn,0,none⟩ (.int .i64 (((bs.take k).count b:Nat):Int))) gt bs:=ht1.same fun c t cs hin h=>h.far (fun e=>by
  have e':c=gn:=e;subst e';rw [<-(aM hn1 h).1] at hin;exact absurd hin dC) _
 obtain ⟨vt,hvt⟩:=ht2.visits;have hs2:=(hv1.1.bk Hs.out dC dC).far (p:=⟨gn,0,none⟩) (fun h=>absurd (show w.heap.size=gn from h) oM) (.int .i64 (((bs.take k).count b:Nat):Int));have hnn:=hn1.set 0 (.int .i64 (((bs.take k).count b:Nat):Int));have hfin:VisF (fun b=>b=gn) w (w1.setCell ⟨gn,0,none⟩ (.int .i64 (((bs.take k).count b:Nat):Int))):=VisF.put (F:=fun b=>b=gn) (VisF.of_vis ((Vis.of_below HA.out).trans hv1.1)) (p:=⟨gn,0,none⟩) (.inl rfl) _;have hkp:Keep (fun b=>b=gv∨b=gt∨b=gn) w (w1.setCell ⟨gn,0,none⟩ (.int .i64 (((bs.take k).count b:Nat):Int))):=Keep.setCell (F:=fun b=>b=gv∨b=gt∨b=gn) ((Keep.of_below HA.out).trans (hv1.2.mono fun b _ e=>.inr (.inl e))) (p:=⟨gn,0,none⟩) (.inl (.inr (.inr rfl))) _;obtain ⟨W,hW⟩:=eqx (w1.setCell ⟨gn,0,none⟩ (.int .i64 (((bs.take k).count b:Nat):Int)));rw [hW] at hw2 ht2 hvt hs2 hnn hfin hkp⊢;have s0:W.cell? ⟨w.heap.size,0,none⟩=some (.pointer (some ⟨gt,0,none⟩)):=(hs2.cell 0).trans rfl;obtain ⟨Hw2,Hs2,HN,HF,HK,Ht2,Hvt⟩:=hqq7 hw2 hs2 hnn hfin hkp ht2 hvt;have htlt:=ht2.lt;have hslt:=hs2.lt;have hgs:=Bk.ne hw2 hs2 dC;have hgn:=Bk.ne hw2 hnn dC;have hgvt:gt≠gv:=by rintro rfl;obtain ⟨ga,v,⟨_,_,h2⟩|⟨_,_,_,_,_,h3⟩⟩:=Ht2.out;exact absurd (aM h2 Hw2.out).1 dC;exact absurd (aM h3.tree Hw2.out).1 dC
 clear hw2 hs2 hnn hfin hkp ht2 hvt hW hw1 ht1 hn1 hv1 HA Ht Hn Hk Hb Hw Hs s0;go_wp2_with fail;refine wp_region_any kR ?_;refine cB [9,10,11,12,13,14,15,16,17,18] (fun b=>b=gv) 10 [3,10] (fun w2=>Bk w2 gv 170 (wcells S n v1)) (fun _ w2=>Bk w2 gv 170 (wcells S n (IntKind.i64.wrap (v1+vt)))) [is (.pointer (some ⟨gv,0,none⟩)),is (.pointer (some ⟨gv,0,none⟩)),is (.pointer (some ⟨gv,10,none⟩)),is (.int .i64 v1),is (.pointer (some ⟨w.heap.size,0,none⟩)),is (.pointer (some ⟨gt,0,none⟩)),is (.int .i64 vt),is (.int .i64 (IntKind.i64.wrap (v1+vt))),is (.pointer (some ⟨gv,0,none⟩)),is (.pointer (some ⟨gv,10,none⟩)),dJ] _ _ rfl kR kR (Hw2.out) (fun w2 w3 h _ hg=>Bk.below h hg h.lt) (fun _ _ _ h k=>Bk.below h k h.lt) (by repeat' (first | exact cL _ _ | exact bV _ |(refine zAe.2 ⟨?_,?_⟩)|(intro p hp;cases hp))) ?_ ?_
 · refine aT ?_;refine pH3 0 (.pointer (some ⟨gv,0,none⟩)) ?_;refine pV3 0 9 ?_;refine pV3 1 10 ?_;refine sC3 (fun _ w5 _ hU _ _ _ hval _ _ _ hK=>?_) ?_
   · have hpre:=hU rfl;have e11:_=_:=hval 2 11 kR rfl;have c12:w5.cell? ⟨gv,10,none⟩=some (.int .i64 v1):=(hpre.cell 10).trans (bH _ _ _).2.2.2.2.2.2.2.2.2.2;go_simp;exact kq hK rfl
   refine pH3 4 (.pointer (some ⟨w.heap.size,0,none⟩)) ?_;refine sC3 (fun _ w5 hS _ _ _ _ hval _ _ _ hK=>?_) ?_
   · replace hS:Keep (fun b=>b=gv) W w5:=kD hS;have e13:_=_:=hval 4 13 kR rfl;have c14:w5.cell? ⟨w.heap.size,0,none⟩=some (.pointer (some ⟨gt,0,none⟩)):=((hS.bk Hs2.out (fun h=>hgs (show w.heap.size=gv from h).symm)).cell 0).trans rfl;go_simp;exact kq hK rfl
   refine sC3 (fun _ w5 hS _ _ _ _ hval _ _ _ hK=>?_) ?_
   · replace hS:Keep (fun b=>b=gv) W w5:=kD hS;have e14:_=_:=hval 5 14 kR rfl;go_simp;refine (fA gt vt w5 ((hS.cell htlt hgvt).trans Hvt.out)).mono ?_;rintro e w8 ⟨rfl,hb8⟩;exact hK _ _ (aP hb8) rfl
   refine pW3 3 12 6 15 ?_;refine pV3 0 9 ?_;refine pV3 8 17 ?_;refine sC3 (fun _ w5 _ hU _ _ _ hval _ _ _ hK=>?_) ?_
   · have hpre:=hU rfl;have e18:_=_:=hval 9 18 kR rfl;have e16:_=_:=hval 7 16 kR rfl;have c18:w5.cell? ⟨gv,10,none⟩=some (.int .i64 v1):=(hpre.cell 10).trans (bH _ _ _).2.2.2.2.2.2.2.2.2.2;have f18:=hpre.frozen 10;go_simp;refine hK (.bool true) _ (bG (Keep.setCell (F:=fun b=>b=gv) (Keep.refl _ _) (p:=⟨gv,10,none⟩) (.inl rfl) _)) ?_;rw [<-cI S n v1];exact hpre.set 10 _
   exact aG
 · intro ev w6 hS hval hall;replace hS:Keep (fun b=>b=gv) W w6:=kD hS;obtain ⟨vJ,pJ⟩:∃vJ0,(fun _ w2=>Bk w2 gv 170 (wcells S n (IntKind.i64.wrap (v1+vt)))) vJ0 w6:=hall 10 dC;simp only [aO,zq1,zq2,Act.put,zq3,zq4,zq5];clear hval hall;have hv6:=Vis.of_wave hS Hw2.out pJ;have h1:=VisF.trans HF.out (VisF.of_vis hv6);have h2:=HK.out.trans (hS.mono fun b _ e=>.inl e);have h3:=hS.bk HN.out (fun e=>hgn (show gn=gv from e).symm);obtain ⟨H1,H2,H3⟩:=hqq3 h1 h2 h3;clear hv6 h1 h2 h3 pJ hS;go_wp2_with fail;go_end0;exact ⟨rfl,H1.out,H2.out,H3.out⟩
theorem lE (gv gt:Nat) (S:Nat->Value) (n v lv p:Int) (bs:List Bool) (k:Nat) (b:Bool) (w:World) (hw:Bk w gv 170 (wcells S n v)) (ht:TreeAt w gt bs) (hkl:k<=bs.length):
 Calls Tryz.prog 130 #[.pointer (some ⟨gv,0,none⟩),.agg #[.pointer (some ⟨gt,0,none⟩),.int .i64 lv,.int .i64 p],.int .i64 (k:Int),.bool b] w fun e w'=>e=.returned (.int .i64 (((bs.take k).count b:Nat):Int))/\VisK (fun b=>b=gv∨b=gt) w w':=by
 have hmf:∀(fn:Fn) (first cap:Array Value) (w:World),(Instr.makeFunc fn first cap).run Tryz.prog w=.ok (.func fn first cap) w:=fun _ _ _ _=>rfl;obtain ⟨W,hW⟩:=eqx ((((w.alloc (.cells #[.pointer (some ⟨gt,0,none⟩),.int .i64 lv,.int .i64 p] 173)).alloc (.cells #[.int .i64 (k:Int)] 3)).alloc (.cells #[.bool b] 4)).alloc (.cells #[.int .i64 0] 3));have hB:Below w.heap.size w W:=by rw [<-hW];exact (((bR.alloc nL _).alloc (by simp) _).alloc (by simp;omega) _).alloc (by simp;omega) _
 have h1:Bk W (w.heap.size+1) 3 #[.int .i64 (k:Int)]:=by rw [<-hW];have h:=Bk.new (w.alloc (.cells #[.pointer (some ⟨gt,0,none⟩),.int .i64 lv,.int .i64 p] 173)) 3 #[.int .i64 (k:Int)];rw [show (w.alloc (.cells #[.pointer (some ⟨gt,0,none⟩),.int .i64 lv,.int .i64 p] 173)).heap.size=w.heap.size+1 from by simp] at h;exact (h.alloc _).alloc _
 have h2:Bk W (w.heap.size+1+1) 4 #[.bool b]:=by rw [<-hW];have h:=Bk.new ((w.alloc (.cells #[.pointer (some ⟨gt,0,none⟩),.int .i64 lv,.int .i64 p] 173)).alloc (.cells #[.int .i64 (k:Int)] 3)) 4 #[.bool b];rw [show ((w.alloc (.cells #[.pointer (some ⟨gt,0,none⟩),.int .i64 lv,.int .i64 p] 173)).alloc (.cells #[.int .i64 (k:Int)] 3)).heap.size=w.heap.size+1+1 from by simp] at h;exact h.alloc _
 have h3:Bk W (w.heap.size+1+1+1) 3 #[.int .i64 0]:=by rw [<-hW];have h:=Bk.new (((w.alloc (.cells #[.pointer (some ⟨gt,0,none⟩),.int .i64 lv,.int .i64 p] 173)).alloc (.cells #[.int .i64 (k:Int)] 3)).alloc (.cells #[.bool b] 4)) 3 #[.int .i64 0];rw [show (((w.alloc (.cells #[.pointer (some ⟨gt,0,none⟩),.int .i64 lv,.int .i64 p] 173)).alloc (.cells #[.int .i64 (k:Int)] 3)).alloc (.cells #[.bool b] 4)).heap.size=w.heap.size+1+1+1 from by simp] at h;exact h
 have hw1:=hw.below hB hw.lt;have ht1:=ht.below hB;obtain ⟨Hw1,Ht1,H1,H2,H3,HW,HB⟩:=hqq7 hw1 ht1 h1 h2 h3 hW hB;clear hw ht hw1 ht1 h1 h2 h3 hW hB;go_enter Tryz.func130,Tryz.ntmps130;go_wp2_with fail;rw [HW.out];refine (aFf gv gt _ _ _ S n v lv p _ bs k b W Hw1.out Ht1.out H1.out H2.out H3.out hkl).mono ?_;rintro e w1 ⟨rfl,hvf,hkp,hn⟩;have hfin:Vis w w1:=VisF.to_vis (VisF.trans (VisF.of_vis (Vis.of_below HB.out)) hvf) (fun b hb e=>by omega);have hkf:Keep (fun b=>b=gv∨b=gt) w w1:=(Keep.of_below HB.out).trans' hkp (fun b hb e=>by
  rcases e with e | e | e;exact .inl e;exact .inr e
  · omega)
 have c9:w1.cell? ⟨w.heap.size+1+1+1,0,none⟩=some (.int .i64 (((bs.take k).count b:Nat):Int)):=(hn.cell 0).trans rfl;obtain ⟨HF,HK⟩:=hqq2 hfin hkf;clear hvf hkp hn hfin hkf;go_wp2_with fail;go_ret;exact ⟨rfl,HF.out,HK.out⟩
theorem rX {L L':List Nat} (h:L.Perm L'):tcells L=tcells L':=by
 refine oI _ _ (eF L) (fun s hs=>?_) ?_
 · rw [dN L hs,h.count_eq]
 · rw [gL,h.length_eq]
theorem aCr (L L':List Nat) (s:Nat) (hs:s < 257) (h:L.Perm (s::L')):((tcells L).setIfInBounds s (.int .i64 (((L.count s - 1:Nat)):Int))).setIfInBounds 257 (.int .i64 ((L.length - 1:Nat):Int))=tcells L':=by
 have hc:=h.count_eq;have hl:=h.length_eq;rw [zCf] at hl;apply oI
 · simp [eF]
 · intro i hi;rw [zCe oM];by_cases e:s=i
   · subst e;rw [Array.getElem?_setIfInBounds_self_of_lt (by rw [eF];omega),hc s];simp
   · rw [zCe e,dN L hi,hc i,List.count_cons_of_ne e]
 rw [Array.getElem?_setIfInBounds_self_of_lt (by simp [eF]),hl];rfl
theorem aAu (gt:Nat) (L L':List Nat) (s:Nat) (w:World) (hP:L.Perm (s::L')) (h:Bk w gt 229 (tcells L)) (hs:s < 257) (hl:L.length<=1000):
 Calls Tryz.prog 134 #[.pointer (some ⟨gt,0,none⟩),.int .i64 (s:Int),.int .i64 (-1)] w fun e w'=>e=.returned (.int .i64 0)/\Bk w' gt 229 (tcells L')/\Keep (fun b=>b=gt) w w':=by
 have H:=lhd h;clear h;have h0:¬((s:Int) < 0):=oM;have h1:((s:Int) < 257):=oM;obtain ⟨q,hq⟩:=eqx (L.count s);obtain ⟨n,hn⟩:=eqx L.length;have hql:q<=1000:=by rw [<-hq];exact zAk zBv hl
 rw [hn] at hl;have hq1:1<=q:=by rw [<-hq,hP.count_eq];simp
 have hn1:1<=n:=by rw [<-hn,hP.length_eq];simp
 have hadd:=aCr L L' s hs hP;rw [hq,hn] at hadd;obtain ⟨HA,HQ,HN⟩:=hqq3 hadd hq hn;clear hadd hq hn;go_enter Tryz.func134,Tryz.ntmps134;go_wp2_with fail;refine (eT s _ hs).mono ?_;rintro e w1 ⟨rfl,hb⟩;have hbk:=H.out.below hb H.out.lt;have c0:w1.cell? ⟨gt,s,none⟩=some (.int .i64 (q:Int)):=by rw [<-HQ.out];exact (hbk.cell s).trans (dN L hs)
 have c1:w1.cell? ⟨gt,257,none⟩=some (.int .i64 (n:Int)):=by rw [<-HN.out];exact (hbk.cell 257).trans (gL L)
 have n1:¬((-1:Int) < -(q:Int)):=oM;have n2:¬((-1:Int) > 2147483648 -(n:Int)):=oM;obtain ⟨HB,Hbk⟩:=hqq2 hb hbk;clear hb hbk H;go_wp2_with fail;refine wp_region_any kR ?_;refine cB [33,34,35,36,37,38,39,40,41,42,43] (fun b=>b=gt) 11 [5,11] (fun w2=>Bk w2 gt 229 (tcells L)) (fun _ w2=>Bk w2 gt 229 ((tcells L).setIfInBounds s (.int .i64 ((q - 1:Nat):Int)))) [is (.pointer (some ⟨gt,0,none⟩)),is (.int .i64 (s:Int)),is (.pointer (some ⟨gt,0,none⟩)),is (.pointer (some ⟨gt,0,none⟩)),is (.pointer (some ⟨gt,s,none⟩)),is (.int .i64 (q:Int)),is (.int .i64 (-1)),is (.int .i64 ((q - 1:Nat):Int)),is (.pointer (some ⟨gt,0,none⟩)),is (.pointer (some ⟨gt,0,none⟩)),is (.pointer (some ⟨gt,s,none⟩)),dJ] _ _ rfl kR kR (Hbk.out) (fun w2 w3 h _ hg=>Bk.below h hg h.lt) (fun _ _ _ h k=>Bk.below h k h.lt) (by repeat' (first | exact cL _ _ | exact bV _ |(refine zAe.2 ⟨?_,?_⟩)|(intro p hp;cases hp))) ?_ ?_
 · refine aT ?_;refine pH3 0 (.pointer (some ⟨gt,0,none⟩)) ?_;refine pH3 1 (.int .i64 (s:Int)) ?_;refine pV3 0 33 ?_;refine pV3 2 35 ?_;refine pW3 3 36 1 34 ?_;refine sC3 (fun _ w5 _ hU _ _ _ hval _ _ _ hK=>?_) ?_
   · have hpre:=hU rfl;have e37:_=_:=hval 4 37 kR rfl;have c38:w5.cell? ⟨gt,s,none⟩=some (.int .i64 (q:Int)):=(by rw [<-HQ.out];exact (hpre.cell s).trans (dN L hs));go_simp;exact kq hK rfl
   refine pH3 2 (.int .i64 (-1)) ?_;refine sC3 (fun _ _ _ _ _ _ _ hval _ _ _ hK=>?_) ?_
   · have e38:_=_:=hval 5 38 kR rfl;have e39:_=_:=hval 6 39 kR rfl;go_simp;exact hK _ _ (aP bR) (eB (by rw [IntKind.wrap_i64];omega))
   refine pV3 0 33 ?_;refine pV3 8 41 ?_;refine pW3 9 42 1 34 ?_;refine sC3 (fun _ w5 _ hU _ _ _ hval _ _ _ hK=>?_) ?_
   · have hpre:=hU rfl;have e43:_=_:=hval 10 43 kR rfl;have e40:_=_:=hval 7 40 kR rfl;have c43:w5.cell? ⟨gt,s,none⟩=some (.int .i64 (q:Int)):=(by rw [<-HQ.out];exact (hpre.cell s).trans (dN L hs));have f43:=hpre.frozen s;go_simp;exact hK (.bool true) _ (bG (Keep.setCell (F:=fun b=>b=gt) (Keep.refl _ _) (p:=⟨gt,s,none⟩) (.inl rfl) _)) (hpre.set s _)
   exact aG
 · intro ev w6 hS hval hall;replace hS:Keep (fun b=>b=gt) w1 w6:=kD hS;obtain ⟨vJ,pJ⟩:∃vJ0,(fun _ w2=>Bk w2 gt 229 ((tcells L).setIfInBounds s (.int .i64 ((q - 1:Nat):Int)))) vJ0 w6:=hall 11 dC;simp only [aO,zq1,zq2,Act.put,zq3,zq4,zq5];clear hval hall;have c257:w6.cell? ⟨gt,257,none⟩=some (.int .i64 (n:Int)):=(by refine (pJ.cell 257).trans ?_;rw [zCe oM,<-HN.out];exact gL L);have f257:=pJ.frozen 257;have en:(n:Int)+-1=((n - 1:Nat):Int):=oM;obtain ⟨PJ,HS⟩:=hqq2 pJ hS;have hglt:=pJ.lt;clear pJ hS;go_wp2_with fail;go_ret;refine ⟨rfl,?_,?_⟩;rw [<-HA.out];exact PJ.out.set 257 _;exact ((Keep.of_below HB.out).trans HS.out).setCell (.inl rfl) _
@[irreducible] def cntL (L:List Nat):List Value:=(List.range 257).map fun s=>.int .i64 ((L.count s:Nat):Int)
theorem aAk (L:List Nat) {s:Nat} (h:s < 257):(cntL L)[s]?=some (.int .i64 ((L.count s:Nat):Int)):=by
 unfold cntL;rw [zAf,zCj h];rfl
theorem aBE (L:List Nat):(cntL L).length=257:=by unfold cntL;simp
theorem aGq {w:World} {gt:Nat} {L:List Nat} (h:Bk w gt 229 (tcells L)):(loadCells ⟨gt,0,none⟩ 257).run Tryz.prog w=.ok (cntL L).toArray w:=by
 have:=run_loadCells_list (P:=Tryz.prog) w ⟨gt,0,none⟩ (cntL L) (fun j v hv=>by
  have hadd:(⟨gt,0,none⟩:Addr).add j=⟨gt,j,none⟩:=by unfold Addr.add;split <;> simp_all
  have hj:j < 257:=by rw [<-aBE L];exact (zAc.1 hv).1
  rw [hadd,h.cell j,dN L hj,<-aAk L hj,hv])
 rw [aBE] at this;exact this
theorem xD {o:Oper} {a:Act} {w:World} {K:Act->World->Prop} {Q:Exit->Act->World->Prop} (ty:TypeId) (x:Operand) (ho:o.op=.load ty x)
 (ad:Addr) (hx:a.eval x=.pointer (some ad)) (cs:Array Value) (n:Nat) (d:TypeDesc)
 (hu:Tryz.prog.underlying ty=some d) (hd:(match d with | .struct _ | .array _ _=>true | _=>false)=true) (hi:(Tryz.prog.info? ty).map (·.size)=some n)
 (hl:(loadCells ad n).run Tryz.prog w=.ok cs w) (h:K (a.put o.dst (.agg cs)) w):o.wp Tryz.prog a w K Q:=by
 have hv:(loadVar ty ad).run Tryz.prog w=.ok (.agg cs) w:=by
  cases hq:Tryz.prog.info? ty with
  | none=>simp [hq] at hi
  | some i=>
    have hs:i.size=n:=(by simpa [hq] using hi);have hagg:(isAgg ty).run Tryz.prog w=.ok true w:=(by unfold isAgg;rw [Sem.run_bind,run_underlying hu w];cases d <;> simp_all);simp [loadVar,Sem.run_bind,hagg,sizeOf,typeInfo,hq,hs,hl]
 unfold Oper.wp execOp;simp only [ho,hx,Instr.loadAt,Instr.sureAddr,Sem.run_bind,Sem.run_pure,Result.andThen_ok,hv];exact h
theorem aIr (L:List Nat) (x:Nat) (h:x < 257) (w:World):(Instr.index 202 (.agg (cntL L).toArray) (.int .i64 (x:Int))).run Tryz.prog w=.ok (.int .i64 ((L.count x:Nat):Int)) w:=by
 have hc:(cntL L).toArray[x]?=some (.int .i64 ((L.count x:Nat):Int)):=by rw [zCu];exact aAk L h
 have h0:(0:Int)<=(x:Int)/\(x:Int) < ((257:Nat):Int):=oM;have hu:=Tryz.underlying202;have hu2:=Tryz.underlying3;have hc2:=aAk L h;have ha:(isAgg 3).run Tryz.prog w=.ok false w:=by unfold isAgg;rw [Sem.run_bind,run_underlying hu2 w];rfl
 simp [Instr.index,asIntOf,Sem.run_bind,run_underlying hu w,h0,Tryz.sizeOf3,h,part,ha,hc2]
theorem wI (gt:Nat) (L:List Nat) (k s:Nat) (w:World) (h:Bk w gt 229 (tcells L)) (hs:s < 257) (h1:L.countP (fun x=>decide (x < s))<=k) (h2:k < L.countP (fun x=>decide (x < s))+L.count s) (hl:L.length<=1000):
 Calls Tryz.prog 214 #[.pointer (some ⟨gt,0,none⟩),.int .i64 (k:Int)] w fun e w'=>e=.returned (.int .i64 (s:Int))/\Below w.heap.size w w':=by
 have hld:=aGq h;have H:=lhd h;clear h;have g0:decide ((k:Int) < 0)=false:=by simp
 go_enter Tryz.func214,Tryz.ntmps214;go_wp2_with fail;refine xD 202 (.tmp 15) rfl ⟨gt,0,none⟩ rfl (cntL L).toArray 257 _ Tryz.underlying202 rfl kR hld ?_;have hcs:=fun x=>sG L x;have hcx:∀x,x < s->L.countP (fun y=>decide (y < x))+L.count x<=L.countP (fun y=>decide (y < s)):=fun x hx=>by rw [<-hcs x];exact List.countP_mono_left fun y _ h=>by simp at h⊢;omega
 obtain ⟨Hcs,Hcx,H1,H2⟩:=hqq4 hcs hcx h1 h2;clear hcs hcx h1 h2 hld;have hk:k<=1000:=by
  have h2:=H2.out;have h3:L.countP (fun x=>decide (x < s))+L.count s<=L.length:=by rw [<-Hcs.out s];exact zBh
  omega
 simp only [Act.put,List.setIfInBounds_toArray,List.set_cons_zero,List.set_cons_succ];go_wp2_with fail;go_loopw [1,17] (fun v i wr=>∃x:Nat,x<=s/\i=.int .i64 (x:Int)/\v=.int .i64 ((k - L.countP (fun y=>decide (y < x)):Nat):Int)/\wr=w) (fun _ i _=>257 -(intOf i).toNat)
 case atStart=>exact ⟨0,by omega,rfl,by simp,rfl⟩
 case round=>
  obtain ⟨x,hx,rfl,rfl,rfl⟩:=hrel;have hix:=aIr L x oM;have h1:=H1.out;have h2:=H2.out;have h3:=Hcs.out x;have h4:=Hcx.out x;obtain ⟨u,hu⟩:∃u,L.countP (fun y=>decide (y < s))=u:=⟨_,rfl⟩;obtain ⟨v,hv⟩:∃u,L.countP (fun y=>decide (y < x))=u:=⟨_,rfl⟩;obtain ⟨v',hv'⟩:∃u,L.countP (fun y=>decide (y < x+1))=u:=⟨_,rfl⟩;obtain ⟨c,hc⟩:∃u,L.count x=u:=⟨_,rfl⟩;rw [hu] at h1 h2 h4;rw [hv] at h3 h4;rw [hv',hc] at h3;rw [hc] at h4 hix;by_cases hxs:x < s
  · have h5:=h4 hxs;have e1:¬k - v < c:=oM;have e2:decide (k - v < c)=false:=zBy e1;have e3:IntKind.i64.wrap (((k - v:Nat):Int) -(c:Int))=((k - v':Nat):Int):=(by rw [IntKind.wrap_i64];omega);have e4:x < 257:=oM;have e5:(x:Int) < 257:=oM;rw [hv];obtain ⟨d,hd⟩:=eqx (k - v);obtain ⟨d',hd'⟩:∃d,k - v'=d:=⟨_,rfl⟩;rw [hd] at e1 e2 e3⊢;rw [hd'] at e3;obtain ⟨Hd',Hv'⟩:=hqq2 hd' hv';clear h1 h2 h3 h4 h5 hu hv hv' hc hd hd';go_wp2_with fail;go_roundw
    case rel=>exact ⟨x+1,by omega,by go_num,by rw [Hv'.out,Hd'.out],by first | rfl | trivial⟩
    case measure=>simp [intOf];omega
  · obtain rfl:x=s:=oM;rw [hv];obtain rfl:u=v:=(by rw [<-hu,<-hv]);rw [hc] at h2;have e1:k - u < c:=oM;have e4:x < 257:=oM;have e5:(x:Int) < 257:=oM;obtain ⟨d,hd⟩:=eqx (k - u);rw [hd] at e1⊢;clear h1 h2 h3 h4 hu hv hv' hc hd;go_wp2_with fail;go_ret;exact ⟨rfl,Below.refl _ _⟩
structure OrdAt (W:World) (gw gn gr:Nat) (w n:Nat) (A:Option Addr) (c:Nat) (R:List Nat):Prop where
 wide:W.cell? ⟨gw,0,none⟩=some (.int .i64 (w:Int))
 len:W.cell? ⟨gn,0,none⟩=some (.int .i64 (n:Int))
 rank:W.cell? ⟨gr,0,none⟩=some (.slice A n c)
 rd:Rd W W.heap.size 1 A n (R.map sv)
theorem OrdAt.drewN {W:World} {gw gn gr w n c:Nat} {A:Option Addr} {R:List Nat} (h:OrdAt W gw gn gr w n A c R) (q:Nat):OrdAt (W.drewN q) gw gn gr w n A c R:=⟨h.wide,h.len,h.rank,h.rd⟩
theorem OrdAt.at {W:World} {gw gn gr w n c:Nat} {A:Option Addr} {R:List Nat} (h:OrdAt W gw gn gr w n A c R) {i:Nat} (hi:i < n):∃(b off x:Nat),A=some ⟨b,off,none⟩/\R[i]?=some x/\W.cell? ⟨b,off+i,none⟩=some (.int .i64 (x:Int)):=by
 obtain ⟨b,off,u,rfl,hbl,hu,hc⟩:=h.rd.get hi;rw [zAf] at hu;obtain ⟨x,hx,rfl⟩:=Option.map_eq_some_iff.1 hu;exact ⟨b,off,x,rfl,hx,hc⟩
theorem zE (gw gn gr w n c:Nat) (A:Option Addr) (R:List Nat) (i:Nat) (W:World) (h:OrdAt W gw gn gr w n A c R) (hw:w<=1000) (hn:n<=1000) (hi:i < n):
 Calls Tryz.prog 116 #[.int .i64 (i:Int),.pointer (some ⟨gw,0,none⟩),.pointer (some ⟨gn,0,none⟩),.pointer (some ⟨gr,0,none⟩)] W fun e w'=>e=.returned (.int .i64 (aN R (i+w)))/\∃q,w'=W.drewN q:=by
 have hRl:R.length=n:=by simpa using h.rd.1
 have c0:=h.wide;have c1:=h.len;have c2:=h.rank;by_cases hlt:i+w < n
 · have hltI:(i:Int)+(w:Int) < (n:Int):=oM;obtain ⟨b,off,x,rfl,hx,hc⟩:=h.at hlt;have hfin:=jS hx;have HF:=lhd hfin;clear hx h hfin;go_enter Tryz.func116,Tryz.ntmps116;go_wp2;go_ret;exact ⟨by rw [HF.out];first | rfl | simp_all,0,rfl⟩
 · have hltI:¬((i:Int)+(w:Int) < (n:Int)):=oM;have hfin:=lR (l:=R) (p:=i+w) oM;have HF:=lhd hfin;clear h hfin;go_enter Tryz.func116,Tryz.ntmps116;go_wp2;go_ret;exact ⟨by rw [HF.out];rfl,0,rfl⟩
theorem zD (gw gn gr gb w n c:Nat) (A:Option Addr) (R:List Nat) (x y:Nat) (W:World) (h:OrdAt W gw gn gr w n A c R) (hb:W.cell? ⟨gb,0,none⟩=some (.func (.func 116) #[] #[.pointer (some ⟨gw,0,none⟩),.pointer (some ⟨gn,0,none⟩),.pointer (some ⟨gr,0,none⟩)])) (hw:w<=1000) (hn:n<=1000) (hR:∀r∈R,r<=1000) (hx:x < n) (hy:y < n):
 Calls Tryz.prog 117 #[.int .i64 (x:Int),.int .i64 (y:Int),.pointer (some ⟨gr,0,none⟩),.pointer (some ⟨gb,0,none⟩)] W fun e w'=>e=.returned (.int .i64 (jI (aN R) w x y))/\∃q,w'=W.drewN q:=by
 have c2:=h.rank;have H:=lhd h;obtain ⟨b,off,p,hA,hp,hcp⟩:=h.at hx;obtain ⟨b',off',q,hA',hq,hcq⟩:=h.at hy;rw [hA] at hA';injection hA' with hA';injection hA' with e1 e2;subst e1 e2;have hp1:=hR p (zAd hp);have hq1:=hR q (zAd hq);have ep:=jS hp;have eq:=jS hq;have bound:∀i,-1<=aN R i/\aN R i<=1000:=by
  intro i;unfold aN;split
  · next z hz=>
    have:=hR z (zAd hz);omega
  omega
 have b1:=bound (x+w);have b2:=bound (y+w);have hov:jI (aN R) w x y=if (p:Int)≠(q:Int) then (p:Int) -(q:Int) else aN R (x+w) - aN R (y+w):=by unfold jI;rw [ep,eq]
 obtain ⟨u,hu⟩:=eqx (aN R (x+w));obtain ⟨v,hv⟩:=eqx (aN R (y+w));rw [hu,hv] at hov;rw [hu] at b1;rw [hv] at b2;rw [hov];subst hA;obtain ⟨Hu,Hv⟩:=hqq2 hu hv;clear h hp hq ep eq bound hov hu hv hR;by_cases hpq:p=q
 · subst hpq;rw [zBw (by simp)];go_enter Tryz.func117,Tryz.ntmps117;go_wp2;go_quiet (fail);go_wp2;have k1:∀m:Nat,Calls Tryz.prog 116 #[.int .i64 (x:Int),.pointer (some ⟨gw,0,none⟩),.pointer (some ⟨gn,0,none⟩),.pointer (some ⟨gr,0,none⟩)] (W.drewN (nq+m)) fun e w''=>e=.returned (.int .i64 u)/\∃n,w''=W.drewN (nq+n):=fun m=>by have h:=zE gw gn gr w n c _ R x (W.drewN (nq+m)) (H.out.drewN _) hw hn hx;rw [Hu.out] at h;exact h.mono fun _ _ ⟨he,q,hq⟩=>⟨he,m+q,by rw [hq,World.drewN_drewN,Nat.add_assoc]⟩
   have k2:∀m:Nat,Calls Tryz.prog 116 #[.int .i64 (y:Int),.pointer (some ⟨gw,0,none⟩),.pointer (some ⟨gn,0,none⟩),.pointer (some ⟨gr,0,none⟩)] (W.drewN (nq+m)) fun e w''=>e=.returned (.int .i64 v)/\∃n,w''=W.drewN (nq+n):=fun m=>by have h:=zE gw gn gr w n c _ R y (W.drewN (nq+m)) (H.out.drewN _) hw hn hy;rw [Hv.out] at h;exact h.mono fun _ _ ⟨he,q,hq⟩=>⟨he,m+q,by rw [hq,World.drewN_drewN,Nat.add_assoc]⟩
   have h64:IntKind.i64.wrap (u - v)=u - v:=(by rw [IntKind.wrap_i64];omega);go_quiet ((first |(with_reducible exact k1 _)|(with_reducible exact k2 _)));go_wp2;go_ret;exact ⟨fC (by first | omega | rfl),_,World.drewN_drewN _ _ _⟩
 · have hpI:¬((p:Int)=(q:Int)):=oM;rw [zBx hpI];go_enter Tryz.func117,Tryz.ntmps117;go_wp2;go_quiet (fail);go_wp2;go_quiet (fail);go_wp2;go_ret;exact ⟨fC oM,_,World.drewN_drewN _ _ _⟩
def aK (L:List Nat) (lv p:Nat):List Bool:=(L.filter fun s=>bB s lv==p).map (fS · lv)
theorem nA (s lv:Nat) (h:lv < 9):bB s (lv+1)=2*bB s lv+(if fS s lv then 1 else 0):=by
 unfold bB fS;have e1:9 -(lv+1)=8 - lv:=oM;have e2:9 - lv=(8 - lv)+1:=oM;rw [e1,e2,Nat.pow_succ,<-Nat.div_div_eq_div_mul];generalize s / 2 ^(8 - lv)=q;by_cases hq:q % 2=1;simp [hq];omega;simp [hq];omega
theorem mZ (s:Nat) (h:s < 257):bB s 0=0:=by
 unfold bB;exact Nat.div_eq_of_lt oM
theorem nB (s:Nat):bB s 9=s:=by
 unfold bB;simp
theorem kT (s lv:Nat) (h:s < 257) (hl:lv<=9):bB s lv < 2 ^ lv:=by
 unfold bB;rw [Nat.div_lt_iff_lt_mul (Nat.pos_of_ne_zero (by simp)),<-Nat.pow_add,show lv+(9 - lv)=9 by omega];omega
theorem aDn (L:List Nat) (lv s0:Nat) (h:lv < 9):(aK L lv (bB s0 lv)).count (fS s0 lv)=L.countP (fun s=>bB s (lv+1)==bB s0 (lv+1)):=by
 induction L with
 | nil=>rfl
 | cons x l ih=>
   have h1:=nA x lv h;have h2:=nA s0 lv h;unfold aK at ih⊢;rw [zBn,<-ih,List.filter_cons];by_cases hp:bB x lv=bB s0 lv
   · rw [zBx (by simp [hp]),List.map_cons,List.count_cons];by_cases hb:fS x lv=fS s0 lv
     · have:bB x (lv+1)=bB s0 (lv+1):=(by rw [h1,h2,hp,hb]);simp [hb,this]
     · have:bB x (lv+1)≠bB s0 (lv+1):=(by rw [h1,h2,hp];cases hx:fS x lv <;> cases hy:fS s0 lv <;> simp_all);simp [hb,this]
   · rw [zBw (by simp [hp])];have:bB x (lv+1)≠bB s0 (lv+1):=(by rw [h1,h2];cases fS x lv <;> cases fS s0 lv <;> simp <;> omega);simp [this]
theorem aEZ (L:List Nat) (lv p k:Nat):(aK L lv p).take ((L.take k).countP fun s=>bB s lv==p)=aK (L.take k) lv p:=by
 induction L generalizing k with
 | nil=>simp [aK]
 | cons x l ih=>
   rcases k with _ | k
   · simp [aK]
   · have:=ih k;unfold aK at this⊢;rw [List.take_succ_cons,zBn,List.filter_cons,List.filter_cons];by_cases hp:bB x lv=p
     · simp only [hp,beq_self_eq_true,if_true,List.map_cons,List.take_succ_cons,this]
     · have h0:(bB x lv==p)=false:=(by simp [hp]);simp only [h0,Bool.false_eq_true,if_false,zBq,this]
theorem kI (L:List Nat) (lv p:Nat):(aK L lv p).length=L.countP fun s=>bB s lv==p:=by
 unfold aK;rw [zBc,List.countP_eq_length_filter]
def fH (L:List Nat) (k s0 lv:Nat):Nat:=(L.take k).countP fun s=>bB s lv==bB s0 lv
theorem kJ (L:List Nat) (k s0:Nat) (hk:k<=L.length) (hL:∀s∈L,s < 257) (hs:s0 < 257):fH L k s0 0=k:=by
 unfold fH;rw [List.countP_eq_length.2 (fun s hs'=>by
  have:=hL s (List.mem_of_mem_take hs');simp [mZ _ this,mZ _ hs]),zAj]
 omega
theorem kK (L:List Nat) (k s0 lv:Nat) (h:lv < 9):((aK L lv (bB s0 lv)).take (fH L k s0 lv)).count (fS s0 lv)=fH L k s0 (lv+1):=by
 unfold fH;rw [aEZ,aDn _ _ _ h]
theorem aD5 (L:List Nat) (k s0 lv:Nat):fH L k s0 lv<=(aK L lv (bB s0 lv)).length:=by
 unfold fH;rw [kI];exact (List.take_sublist k L).countP_le
theorem zC (L:List Nat) (k s0:Nat):fH L k s0 9=(L.take k).count s0:=by
 unfold fH;rw [List.count_eq_countP];congr 1;funext s;rw [nB,nB]
def dT (G:Nat->Nat) (lv m:Nat):List Value:=(List.range m).flatMap fun p=> [.pointer (some ⟨G p,0,none⟩),.int .i64 (lv:Int),.int .i64 (p:Int)]
theorem gX (G:Nat->Nat) (lv m:Nat):dT G lv (m+1)=dT G lv m++ [.pointer (some ⟨G m,0,none⟩),.int .i64 (lv:Int),.int .i64 (m:Int)]:=by
 unfold dT;rw [List.range_succ,List.flatMap_append];simp
theorem uG (G:Nat->Nat) (lv m:Nat):(dT G lv m).length=m*3:=by
 induction m with
 | zero=>rfl
 | succ m ih=>rw [gX,zAi,ih];simp;omega
theorem fQ (G:Nat->Nat) (lv m p:Nat) (h:p < m):(dT G lv m)[p*3]?=some (.pointer (some ⟨G p,0,none⟩))/\(dT G lv m)[p*3+1]?=some (.int .i64 (lv:Int))/\(dT G lv m)[p*3+2]?=some (.int .i64 (p:Int)):=by
 induction m with
 | zero=>omega
 | succ m ih=>
   rw [gX];by_cases e:p=m;subst e;have hl:=uG G lv p;refine ⟨?_,?_,?_⟩;rw [zAo oM,hl,Nat.sub_self];rfl;rw [zAo oM,hl,show p*3+1 - p*3=1 by omega];rfl;rw [zAo oM,hl,show p*3+2 - p*3=2 by omega];rfl;have hl:=uG G lv m;obtain ⟨h1,h2,h3⟩:=ih oM;refine ⟨?_,?_,?_⟩;rw [zAn oM];exact h1;rw [zAn oM];exact h2;rw [zAn oM];exact h3
theorem zM (G G':Nat->Nat) (lv m:Nat) (h:∀p,p < m->G p=G' p):dT G lv m=dT G' lv m:=by
 induction m with
 | zero=>rfl
 | succ m ih=>rw [gX,gX,ih (fun p hp=>h p oM),h m oM]
def ShelfRow (w:World) (B:Nat) (v:Value) (L:List Nat) (lv m:Nat):Prop:=
 ∃(G:Nat->Nat),w.ownsRow B 173 3 v m (dT G lv m)/\∀p,p < m->B<=G p/\TreeAt w (G p) (aK L lv p)
theorem ShelfRow.vis {w w':World} {B:Nat} {v:Value} {L:List Nat} {lv m:Nat} (h:ShelfRow w B v L lv m) (k:Vis w w'):ShelfRow w' B v L lv m:=by
 obtain ⟨G,h1,h2⟩:=h;exact ⟨G,k.own h1 dC dC,fun p hp=>⟨(h2 p hp).1,(h2 p hp).2.vis k⟩⟩
theorem ShelfRow.below {w w':World} {B:Nat} {v:Value} {L:List Nat} {lv m:Nat} (h:ShelfRow w B v L lv m) (k:Below w.heap.size w w'):ShelfRow w' B v L lv m:=h.vis (Vis.of_below k)
def WaveAt (w:World) (B gv:Nat) (L:List Nat):Prop:=
 B<=gv/\∃(S:Nat->Value) (v:Int),Bk w gv 170 (wcells S (L.length:Int) v)/\∀lv,lv < 9->ShelfRow w B (S lv) L lv (2 ^ lv)
theorem WaveAt.vis {w w':World} {B gv:Nat} {L:List Nat} (h:WaveAt w B gv L) (k:Vis w w'):WaveAt w' B gv L:=by
 obtain ⟨h0,S,v,h1,h2⟩:=h;obtain ⟨v',h3⟩:=k.waveC h1;exact ⟨h0,S,v',h3,fun lv hl=>(h2 lv hl).vis k⟩
theorem WaveAt.below {w w':World} {B gv:Nat} {L:List Nat} (h:WaveAt w B gv L) (k:Below w.heap.size w w'):WaveAt w' B gv L:=h.vis (Vis.of_below k)
abbrev VB (B:Nat):World->World->Prop:=VisK (fun b=>B<=b)
theorem bD {B:Nat} {w w':World} (h:VB B w.drew w'):VB B w w':=⟨⟨h.1.os,h.1.tape,h.1.output,h.1.size,h.1.block⟩,⟨h.2.os,h.2.tape,h.2.output,h.2.size,h.2.block⟩⟩
theorem VB.to_below {B:Nat} {w w':World} (h:VB B w w') (hB:B<=w.heap.size):Below B w w':=h.2.to_below hB (fun b hb f=>by have:=f;omega)
theorem VB.set_wave {w:World} {B g:Nat} {cs:Array Value} (h:Bk w g 170 cs) (hB:B<=g) (v:Int):VB B w (w.setCell ⟨g,10,none⟩ (.int .i64 v)):=⟨Vis.set_wave h v,Keep.setCell (F:=fun b=>B<=b) (Keep.refl _ _) (p:=⟨g,10,none⟩) (.inl hB) _⟩
end Go.Proofs.YtnhmjomhloainaaGreatDoor
