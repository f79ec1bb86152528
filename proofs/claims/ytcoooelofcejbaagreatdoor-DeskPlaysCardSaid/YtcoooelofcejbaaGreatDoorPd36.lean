/- Lemmas of the walk. Conditions: each its own. -/
import Derived.Test.YtcoooelofcejbaaGreatDoorPd35
import Derived.Test.YtcoooelofcejbaaGreatDoorProg
import Derived.Test.YtcoooelofcejbaaGreatDoorShl
import Derived.Test.YtcoooelofcejbaaGreatDoorSht
import Derived.Test.YtcoooelofcejbaaGreatDoorShd
import Derived.Test.YtcoooelofcejbaaGreatDoorShi
import Derived.Test.YtcoooelofcejbaaGreatDoorShs
set_option linter.all false
set_option maxRecDepth 100000
set_option maxHeartbeats 4000000
open Go.Proofs.Tryz
namespace Go.Proofs.YtcoooelofcejbaaGreatDoor
section
open Go.RowKit
def aAx:List UInt8:= [108,101,110,10,105,110,115,101,114,116,32,48,32,97,98,97,98,10,99,111,117,110,116,32,97,98,10,108,111,99,97,116,101,32,97,98,10,116,97,107,101,32,49,32,50,10,116,97,107,101,32,48,32,48,10,108,111,99,97,116,101,32,122,10,120,10,114,101,108,111,97,100,10,108,97,115,116]
def aI0:List UInt8:= [48,10,48,10,50,10,48,32,50,10,48,32,54,50,54,49,10,48,32,110,111,110,101,10,110,111,110,101,10,101,114,114,111,114,10,48,10]
def aG2 (ρ:List UInt8->List Nat):runS ρ 2 9 aAx=aI0++(aZ (jX (aD (aF [97,98,97,98]) (ρ [97,98,97,98])))++ [10]++ []):=by
 kernel_rfl
def aCL:IsSuf (aF [97,98,97,98]) [4,2,0,3,1]:=by
 refine ⟨by decide,?_⟩;have g:aF [97,98,97,98]= [98,99,98,99,0]:=dC;rw [g];have a:∀c d f,(∃b,b < f/\(∀e,e < b->aN [98,99,98,99,0] (c+e)=aN [98,99,98,99,0] (d+e))/\aN [98,99,98,99,0] (c+b) < aN [98,99,98,99,0] (d+b))->sufLt [98,99,98,99,0] c d:=fun c d f i=>⟨f,i⟩;simp only [List.pairwise_cons,List.mem_cons,List.not_mem_nil,or_false,forall_eq_or_imp,forall_eq,false_implies,implies_true,and_true,List.Pairwise.nil];refine ⟨⟨a _ _ 5 dC,a _ _ 5 dC,a _ _ 5 dC,a _ _ 5 dC⟩,⟨a _ _ 5 dC,a _ _ 5 dC,a _ _ 5 dC⟩,⟨a _ _ 5 dC,a _ _ 5 dC⟩,a _ _ 5 dC⟩
def aG1:runS rhoS 2 9 aAx= [48,10,48,10,50,10,48,32,50,10,48,32,54,50,54,49,10,48,32,110,111,110,101,10,110,111,110,101,10,101,114,114,111,114,10,48,10,57,57,32,57,57,32,48,32,57,56,32,57,56,10]:=by
 rw [aG2,IsSuf.unique (mU aCL) aCL];kernel_rfl
def aDu (ρ:List UInt8->List Nat):runS ρ 2 9 []= []:=by kernel_rfl
def aEA (f:Nat) (p:List UInt8) {a:World} (r:f<=127) (b:TabD a):
 Calls prog 6 #[(f:Int),.int .i64 0,dY p] a fun c q=>c=.returned (dY [101,114,114,111,114,32,49,10])/\Below a.heap.size a q:=by
 have k:=yP (rate:=0) f a oM (.inl dC);have d:Below a.heap.size a (a.alloc (.cells #[.int .i64 1] 3)):=bR.alloc nL _;have e:=cR 1 (jD a 1) oM (fun t l=>by simp at l;subst l;exact ⟨by omega,by omega⟩) (b.below d b.tab.pos b.low.2 b.low.1);have i:aZ [1]= [49]:=by kernel_rfl
 rw [i] at e;obtain ⟨n,o,g⟩:=hqq3 k e d;clear k e d b i;go_enter func6,ntmps6;go_wp2_with fail;refine n.out.mono ?_;rintro c w1 ⟨rfl,rfl⟩;go_wp2_with fail;refine o.out.mono ?_;rintro c s ⟨rfl,j⟩;have m:=lhd (g.out.trans (j.mono g.out.size));clear j;go_wp2_with fail;go_ret;exact ⟨by kernel_rfl,m.out⟩
def aEt {a:World} (b:TabD a):Calls prog 5 #[] a fun c x=>c=.returned (.bool true)/\Below a.heap.size a x:=by
 have m:=b.tab.pos;have n:=b.low.2;have o:=b.low.1;have f:=aBr 9 2 oM oM oM (s:=aAx) dC b;have j:runS rhoS 2 9 aAx= [48,10,48,10,50,10,48,32,50,10,48,32,54,50,54,49,10,48,32,110,111,110,101,10,110,111,110,101,10,101,114,114,111,114,10,48,10,57,57,32,57,57,32,48,32,57,56,32,57,56,10]:=aG1;rw [j] at f;have l:=fun w1 (i:Below a.heap.size a w1)=>aEA 9 [108,101,110] oM (b.below i m n o);have g:=fun w1 (i:Below a.heap.size a w1)=>aBr (s:=[]) 9 2 oM oM oM dC (b.below i m n o);have k:runS rhoS 2 9 []= []:=aDu rhoS;rw [k] at g;obtain ⟨t,u,v⟩:=hqq3 f l g;clear f l g j k b;go_enter func5,ntmps5;go_wp2_with fail;refine t.out.mono ?_;rintro c w1 ⟨rfl,p⟩;have d:=lhd p;clear p;go_wp2_with fail;refine (u.out w1 d.out).mono ?_;rintro c y ⟨rfl,q⟩;have e:=lhd (d.out.trans (q.mono d.out.size));clear q;go_wp2_with fail;refine (v.out y e.out).mono ?_;rintro c z ⟨rfl,r⟩;have w:=lhd (e.out.trans (r.mono e.out.size));clear r;go_wp2_with fail;go_ret;exact ⟨by kernel_rfl,w.out⟩
end
section
def aHC {e:List UInt8} {b:List (List UInt8)} {a:List UInt8} (g:bW e=b++ [a]):aET e=if a= [] then b else b++ [a]:=by
 have f:∀(c:List (List UInt8)) (d:c≠ []),c=b++ [a]->(if c.getLast d= [] then c.dropLast else c)=if a= [] then b else b++ [a]:=by
  intro c d k;subst k;have i:(b++ [a]).getLast d=a:=by simp
  have j:(b++ [a]).dropLast=b:=by simp
  rw [i,j]
 exact f _ _ g
def aJb {ρ:List UInt8->List Nat} {rate most:Nat} {d:List UInt8} {b:List (List UInt8)} {a:List UInt8} (e:bW d=b++ [a]):runS ρ rate most d=if 300 < (if a= [] then b.length else b.length+1) then [101,114,114,111,114,10] else linesRun ρ rate most ([],cY rate 0) (b++ [a]):=by
 unfold runS;rw [aHC e];by_cases c:a= []
 · subst c;rw [zBx rfl,zBx rfl,dU,zBx rfl,List.append_nil]
 · rw [zBw c,zBw c,zAi,List.length_singleton]
structure Seg (s:List UInt8) (i:Nat) (D:List (List UInt8)) (C:List UInt8) (f:Nat):Prop where
 ls:bW (s.take i)=D++ [C]
 fi:f+C.length=i
 sl:(s.drop f).take (i - f)=C
def Seg.zero (a:List UInt8):Seg a 0 [] [] 0:=⟨rfl,rfl,rfl⟩
def Seg.nl {b:List UInt8} {a:Nat} {d:List (List UInt8)} {c:List UInt8} {e:Nat} (f:Seg b a d c e) (g:b[a]?=some 10):Seg b (a+1) (d++ [c]) [] (a+1):=by
 refine ⟨?_,rfl,by simp⟩;rw [zAv,g];have:=mX 10 f.ls;rw [zBx rfl] at this;exact this
def Seg.on {e:List UInt8} {a:Nat} {c:UInt8} {g:List (List UInt8)} {f:List UInt8} {b:Nat} (d:Seg e a g f b) (i:e[a]?=some c) (j:c≠10):Seg e (a+1) g (f++ [c]) b:=by
 have k:=d.fi;refine ⟨?_,by rw [zAi,List.length_singleton];omega,?_⟩;rw [zAv,i];have:=mX c d.ls;rw [zBw j] at this;exact this;rw [show a+1 - b=(a - b)+1 by omega,zAv,d.sl,zBt,show b+(a - b)=a by omega,i];rfl
def Seg.all {a:List UInt8} {g:Nat} {d e:List (List UInt8)} {b c:List UInt8} {i:Nat} (j:Seg a g d b i) (l:a.length<=g) (k:bW a=e++ [c]):d=e/\b=c:=by
 have f:=j.ls;rw [zAg l,k] at f;have:=List.append_inj' f rfl;exact ⟨this.1.symm,by simpa using this.2.symm⟩
end
section
open Go.RowKit
def Seg.cnt {c:List UInt8} {a:Nat} {b:List (List UInt8)} {d:List UInt8} {e:Nat} (f:Seg c a b d e):b.length<=a:=by
 have:=(pN (c.take a)).1;rw [f.ls,zAi,List.length_singleton,zAj] at this;omega
structure RfI (w wr:World) (gs most rate:Nat) (D:List (List UInt8)) (O:List UInt8):Prop where
 st:∃own gl,StAt wr w.heap.size own gs gl most rate (textRun rhoS rate most ([],cY rate 0) D).1 (textRun rhoS rate most ([],cY rate 0) D).2
 bl:Below w.heap.size w wr
 out:O=linesRun rhoS rate most ([],cY rate 0) D
 len:O.length<=6001*D.length
def RfI.skip {j wr:World} {i d a:Nat} {b:List (List UInt8)} {e:List UInt8} (c:RfI j wr i d a b e):RfI j wr i d a (b++ [[]]) e:=by
 have f:=eZ rhoS a d [] b ([],cY a 0);have g:=dU rhoS a d [] b ([],cY a 0);rw [zBx rfl] at f g;refine ⟨by rw [f];exact c.st,c.bl,by rw [g,List.append_nil];exact c.out,?_⟩;have:=c.len;rw [zAi,List.length_singleton];omega
def RfI.next {g wr l:World} {e b a q:Nat} {own k:Nat->Nat} {d:List (List UInt8)} {m c j:List UInt8} {n i:Txt} (f:RfI g wr e b a d m) (t:textRun rhoS a b ([],cY a 0) d=n) (s:c≠ []) (r:lineS rhoS a b n c=(i,j)) (v:StAt l g.heap.size k e q b a i.1 i.2) (u:LFS g.heap.size e wr l own k) (w:j.length<=6000):RfI g l e b a (d++ [c]) (m++(j++ [10])):=by
 have o:=eZ rhoS a b c d ([],cY a 0);have p:=dU rhoS a b c d ([],cY a 0);rw [zBw s,t,r] at o p;refine ⟨⟨k,q,by rw [o];exact v⟩,f.bl.trans (u.below f.bl.size),by rw [p,f.out],?_⟩;have:=f.len;simp only [zAi,List.length_singleton];omega
def aJd {a:List UInt8} {f:Nat} (k:a.length=f):∃d b,bW a=d++ [b]/\(∀(g i:Nat) (e:List (List UInt8)) (c:List UInt8),Seg a g e c i->f<=g->e=d/\c=b):=
 ⟨_,_,(List.dropLast_concat_getLast (lA a)).symm,fun _ _ _ _ j l=>j.all oM (List.dropLast_concat_getLast (lA a)).symm⟩
def aGI (m i:Nat) {s:List UInt8} {o:World} (ar:m<=127) (aI:1<=i) (aJ:i<=64) (aR:s.length<=100000) (a8:TabW o):
 Calls prog 7 #[(m:Int),(i:Int),dY s] o fun L b0=>L=.returned (dY (runS rhoS i m s))/\Below o.heap.size o b0:=by
 have au:=aAl m i o oM aI aJ;have Z:=a8.pos;obtain ⟨e,S⟩:=eqx s.length;have b3:(⟨s.toArray⟩:ByteArray).size=e:=(lM s).trans S;obtain ⟨a0,aw,ac,ao⟩:=aJd S;have t:=aJb (ρ:=rhoS) (rate:=i) (most:=m) ac;obtain ⟨am,a7⟩:=eqx (runS rhoS i m s);obtain ⟨a4,D⟩:∃a4,(if aw= [] then a0.length else a0.length+1)=a4:=⟨_,rfl⟩;rw [a7,D] at t;rw [a7];have b1:a0.length<=100000:=by have:=(pN s).1;rw [ac,zAi,List.length_singleton] at this;omega
 obtain ⟨al,ah,aj,aB,ax,ai⟩:=hqq6 au S ao t D a8;rw [S] at aR;clear au ao t a7 ac D S a8;go_enter func7,ntmps7;go_wp2_with fail;refine al.out.mono ?_;rintro L w1 ⟨R,aG,own,rfl,av,ap⟩;obtain ⟨aD,ak⟩:=hqq2 av ap;clear av ap al;go_wp2_with fail;go_loopw [9,10,11] (fun P a5 C wr=>∃a J g:Nat,P=.int .i64 (J:Int)/\a5=.int .i64 (g:Int)/\C=.int .i64 (a:Int)/\wr=w1/\((a<=e/\∃d c,Seg s a d c g/\J=d.length)∨(a=e+1/\J=a4))) (fun _ _ C _=>e+1 -(intOf C).toNat)
 case atStart=>exact ⟨0,0,0,rfl,rfl,rfl,rfl,.inl ⟨zAp _, [], [],Seg.zero s,rfl⟩⟩
 case round=>
  obtain ⟨a,J,g,rfl,rfl,rfl,rfl,a9⟩:=hrel;rcases a9 with ⟨aN,d,c,b,rfl⟩|⟨rfl,rfl⟩
  · have aa:(a:Int)<=(e:Int):=oM;have r:=b.fi;have aM:=b.cnt;by_cases ab:a=e
    · subst ab;obtain ⟨rfl,rfl⟩:=aj.out _ _ _ _ b nL;have D:=ax.out;clear b;by_cases k:c= []
      · rw [zBx k] at D;have M:¬(g:Int) < (a:Int):=(by rw [k] at r;simp at r;omega);clear k r;go_wp2_with fail;go_roundw
        case rel=>exact ⟨a+1,d.length,a+1,rfl,by go_num,by go_num,by first | rfl | trivial,.inr ⟨rfl,D⟩⟩
        case measure=>first |(simp [intOf];done)|(simp [intOf];omega)
      · rw [zBw k] at D;have M:(g:Int) < (a:Int):=(by have:=List.length_pos_iff.2 k;omega);clear k r;go_wp2_with fail;go_roundw
        case rel=>exact ⟨a+1,d.length+1,a+1,by go_num,by go_num,by go_num,by first | rfl | trivial,.inr ⟨rfl,D⟩⟩
        case measure=>first |(simp [intOf];done)|(simp [intOf];omega)
    · have z:a < e:=oM;have aQ:(a:Int) < (e:Int):=oM;have b2:((a:Int)==(e:Int))=false:=(by rw [zCb];omega);obtain ⟨j,q⟩:∃j,s[a]?=some j:=⟨_,zAa (by rw [ah.out];exact z)⟩;have aO:=aES q;by_cases v:j=10
      · subst v;have aY:((UInt8.toNat 10:Nat):Int)=10:=rfl;have V:=b.nl q;have u:=lhd V;clear b V q;by_cases M:(g:Int) < (a:Int)
        · go_wp2_with fail;go_roundw
          case rel=>exact ⟨a+1,d.length+1,a+1,by go_num,by go_num,by go_num,by first | rfl | trivial,.inl ⟨z,d++ [c], [],u.out,by simp⟩⟩
          case measure=>first |(simp [intOf];done)|(simp [intOf];omega)
        · go_wp2_with fail;go_roundw
          case rel=>exact ⟨a+1,d.length+1,a+1,by go_num,by go_num,by go_num,by first | rfl | trivial,.inl ⟨z,d++ [c], [],u.out,by simp⟩⟩
          case measure=>first |(simp [intOf];done)|(simp [intOf];omega)
      · have aZ:((j.toNat:Int)==10)=false:=(by rw [zCb];intro L;apply v;apply UInt8.toNat_inj.1;show j.toNat=10;omega);have V:=b.on q v;have u:=lhd V;clear b V q v;go_wp2_with fail;go_roundw
        case rel=>exact ⟨a+1,d.length,g,rfl,rfl,by go_num,by first | rfl | trivial,.inl ⟨z,d,c++ [j],u.out,rfl⟩⟩
        case measure=>first |(simp [intOf];done)|(simp [intOf];omega)
  · have aa:¬((e+1:Nat):Int)<=(e:Int):=oM;have t:=aB.out;by_cases an:300 < J
    · rw [zBx an] at t;have aK:(300:Int) < (J:Int):=oM;have K:=lhd t;clear t;go_wp2_with fail;go_ret;exact ⟨by rw [K.out];rfl,ak.out⟩
    · rw [zBw an] at t;have aK:¬(300:Int) < (J:Int):=oM;have K:=lhd t;clear t;go_wp2_with fail;go_loopw [10,12,13] (fun a5 aW C wr=>∃(a g:Nat) (f:List UInt8),a5=.int .i64 (g:Int)/\aW=.string ⟨f.toArray⟩/\C=.int .i64 (a:Int)/\((a<=e/\∃d c,Seg s a d c g/\RfI o wr R m i d f)∨(a=e+1/\f=am/\Below o.heap.size o wr))) (fun _ _ C _=>e+1 -(intOf C).toNat)
      case atStart=>exact ⟨0,0, [],rfl,rfl,rfl,.inl ⟨zAp _, [], [],Seg.zero s,⟨⟨own,aG,aD.out⟩,ak.out,rfl,zAp _⟩⟩⟩
      case round=>
       obtain ⟨a,g,f,rfl,rfl,rfl,a9⟩:=hrel;rcases a9 with ⟨aN,d,c,b,l⟩|⟨rfl,rfl,aq⟩
       · have aa:(a:Int)<=(e:Int):=oM;have r:=b.fi;have aM:=b.cnt;by_cases ab:a=e
         · subst ab;obtain ⟨rfl,rfl⟩:=aj.out _ _ _ _ b nL;by_cases k:c= []
           · have M:¬(g:Int) < (a:Int):=(by rw [k] at r;simp at r;omega);have aL:f=am:=(by subst k;rw [K.out];exact l.skip.out);have ay:=lhd l.bl;clear l b k r;subst aL;go_wp2_with fail;go_roundw
             case rel=>exact ⟨a+1,a+1,f,by go_num,rfl,by go_num,.inr ⟨rfl,rfl,ay.out⟩⟩
             case measure=>first |(simp [intOf];done)|(simp [intOf];omega)
           · have aA:=K;obtain ⟨ad,aH,n⟩:=l.st;obtain ⟨⟨E,N⟩,G⟩:∃E,textRun rhoS i m ([],cY i 0) d=E:=⟨_,rfl⟩;rw [G] at n;dsimp only at n;obtain ⟨aX,_,_,_,X,_⟩:=n.tp;have I:=mU X;have w:=qZ i m (Q:=N) c I n.n127 (by obtain ⟨aV,aE,aF,_⟩:=fC n;omega);have y:=rW (x:=c) I n oM ar (ai.out.below l.bl Z) Z;obtain ⟨⟨O,p⟩,H⟩:∃ag,lineS rhoS i m (E,N) c=ag:=⟨_,rfl⟩;rw [H] at y w;dsimp only at y w;have a6:f.length<=601000000:=(by have:=l.len;omega);have aT:=fP f p;have aU:=fP (f++p) [10];have ae:=fO f p oM oM;have af:=fO (f++p) [10] (by rw [zAi];omega) (by simp);have aS:(⟨s.toArray⟩:ByteArray).extract g a=⟨c.toArray⟩:=(by rw [iQ,b.sl]);have M:(g:Int) < (a:Int):=(by have:=List.length_pos_iff.2 k;omega);have aP:(g:Int)<=(a:Int):=oM;have U:=fun (B:World) (A:Nat->Nat) (F:Nat) (P:StAt B o.heap.size A R F m i O.1 O.2) (j:LFS o.heap.size R wr B ad A)=>l.next G k H P j w;obtain ⟨a2,a3,aC⟩:=hqq3 y U b;clear l n G X I H y U b a6 w;go_wp2_with fail;refine a2.out.mono ?_;rintro L B ⟨A,F,rfl,W,T⟩;have Y:=lhd (a3.out B A F W T);clear W T;go_wp2_with fail;clear ae af;go_roundw
             case rel=>exact ⟨a+1,a+1,f++(p++ [10]),by go_num,by first | rfl | simp,by go_num,.inr ⟨rfl,by rw [K.out];exact Y.out.out,Y.out.bl⟩⟩
             case measure=>first |(simp [intOf];done)|(simp [intOf];omega)
         · have z:a < e:=oM;have aQ:(a:Int) < (e:Int):=oM;obtain ⟨j,q⟩:∃j,s[a]?=some j:=⟨_,zAa (by rw [ah.out];exact z)⟩;have aO:=aES q;by_cases v:j=10
           · subst v;have aY:((UInt8.toNat 10:Nat):Int)=10:=rfl;have u:=lhd (b.nl q);clear q;by_cases k:c= []
             · have M:¬(g:Int) < (a:Int):=(by rw [k] at r;simp at r;omega);have a1:=lhd l;clear l b r;go_wp2_with fail;go_roundw
               case rel=>exact ⟨a+1,a+1,f,by go_num,rfl,by go_num,.inl ⟨z,d++ [c], [],u.out,by rw [k];exact a1.out.skip⟩⟩
               case measure=>first |(simp [intOf];done)|(simp [intOf];omega)
             · have aA:=K;obtain ⟨ad,aH,n⟩:=l.st;obtain ⟨⟨E,N⟩,G⟩:∃E,textRun rhoS i m ([],cY i 0) d=E:=⟨_,rfl⟩;rw [G] at n;dsimp only at n;obtain ⟨aX,_,_,_,X,_⟩:=n.tp;have I:=mU X;have w:=qZ i m (Q:=N) c I n.n127 (by obtain ⟨aV,aE,aF,_⟩:=fC n;omega);have y:=rW (x:=c) I n oM ar (ai.out.below l.bl Z) Z;obtain ⟨⟨O,p⟩,H⟩:∃ag,lineS rhoS i m (E,N) c=ag:=⟨_,rfl⟩;rw [H] at y w;dsimp only at y w;have a6:f.length<=601000000:=(by have:=l.len;omega);have aT:=fP f p;have aU:=fP (f++p) [10];have ae:=fO f p oM oM;have af:=fO (f++p) [10] (by rw [zAi];omega) (by simp);have aS:(⟨s.toArray⟩:ByteArray).extract g a=⟨c.toArray⟩:=(by rw [iQ,b.sl]);have M:(g:Int) < (a:Int):=(by have:=List.length_pos_iff.2 k;omega);have aP:(g:Int)<=(a:Int):=oM;have U:=fun (B:World) (A:Nat->Nat) (F:Nat) (P:StAt B o.heap.size A R F m i O.1 O.2) (j:LFS o.heap.size R wr B ad A)=>l.next G k H P j w;obtain ⟨a2,a3,aC⟩:=hqq3 y U b;clear l n G X I H y U b a6 w;go_wp2_with fail;refine a2.out.mono ?_;rintro L B ⟨A,F,rfl,W,T⟩;have Y:=lhd (a3.out B A F W T);clear W T;go_wp2_with fail;clear ae af;go_roundw
               case rel=>exact ⟨a+1,a+1,f++(p++ [10]),by go_num,by first | rfl | simp,by go_num,.inl ⟨z,d++ [c], [],u.out,Y.out⟩⟩
               case measure=>first |(simp [intOf];done)|(simp [intOf];omega)
           · have aZ:((j.toNat:Int)==10)=false:=(by rw [zCb];intro L;apply v;apply UInt8.toNat_inj.1;show j.toNat=10;omega);obtain ⟨u,a1⟩:=hqq2 (b.on q v) l;clear l b q v;go_wp2_with fail;go_roundw
             case rel=>exact ⟨a+1,g,f,rfl,rfl,by go_num,.inl ⟨z,d,c++ [j],u.out,a1.out⟩⟩
             case measure=>first |(simp [intOf];done)|(simp [intOf];omega)
       · have aa:¬((e+1:Nat):Int)<=(e:Int):=oM;have az:=lhd aq;clear aq;go_wp2_with fail;go_ret;exact ⟨rfl,az.out⟩
def tE {x y:List UInt8} {b a:Nat} (e:x.length<=b) (f:y.length<=a) (d:b+a<=100000):∃c:List UInt8,((⟨x.toArray⟩:ByteArray)++⟨y.toArray⟩)=⟨c.toArray⟩/\¬9223372036854775807 < (⟨x.toArray⟩:ByteArray).size+(⟨y.toArray⟩:ByteArray).size/\c.length<=b+a:=
 ⟨x++y,fP x y,fO x y oM oM,by rw [zAi];omega⟩
def yA (k l:Int) (a:World) (d:TabD a):Calls prog 3 #[.int .i64 k,.int .i64 l] a fun f Z=>f=.returned (.bool true)/\Below a.heap.size a Z:=by
 have t:=d.tab.pos;have u:=d.low.2;have v:=d.low.1;obtain ⟨c,ad,ac⟩:∃c:Nat,(IntKind.u64.wrap k).tmod 12=(c:Int)/\c < 12:=by
  have g:0<=IntKind.u64.wrap k:=by rw [IntKind.wrap_u64];omega
  refine ⟨((IntKind.u64.wrap k).tmod 12).toNat,?_,?_⟩;rw [Int.tmod_eq_emod_of_nonneg g];omega;rw [Int.tmod_eq_emod_of_nonneg g];omega
 obtain ⟨e,af,ae⟩:∃e:Nat,(IntKind.u64.wrap l).tmod 64=(e:Int)/\e < 64:=by
  have g:0<=IntKind.u64.wrap l:=by rw [IntKind.wrap_u64];omega
  refine ⟨((IntKind.u64.wrap l).tmod 64).toNat,?_,?_⟩;rw [Int.tmod_eq_emod_of_nonneg g];omega;rw [Int.tmod_eq_emod_of_nonneg g];omega
 obtain ⟨b,ag,H,I⟩:∃b:Nat,(1:Int)+(e:Int)=(b:Int)/\1<=b/\b<=64:=⟨1+e,by omega,by omega,by omega⟩;have a9:IntKind.i64.wrap (c:Int)=(c:Int):=by rw [IntKind.wrap_i64];omega
 have aa:IntKind.i64.wrap (e:Int)=(e:Int):=by rw [IntKind.wrap_i64];omega
 have ab:IntKind.i64.wrap (b:Int)=(b:Int):=by rw [IntKind.wrap_i64];omega
 have w:=fun a=>tK (z:=(c:Int)) a oM oM;have j:=rC (n:=(c:Int)) oM oM;obtain ⟨A,G⟩:=eqx (Lib.itoa (c:Int));rw [G] at w j;obtain ⟨T,a3,ai,J⟩:=tE (x:= [105,110,115,101,114,116,32,48,32,104,101,108,108,111,32,119,111,114,108,100,10,105,110,115,101,114,116,32]) (y:=A) (by decide:_<=28) j oM;obtain ⟨U,a4,aj,K⟩:=tE (x:=T) (y:= [32,108,111,10,99,111,117,110,116,32,108,111,10,108,111,99,97,116,101,32,108,10,115,101,116,32]) J (by decide:_<=26) oM;obtain ⟨V,a5,ak,L⟩:=tE (x:=U) (y:=A) K j oM;obtain ⟨W,a6,al,M⟩:=tE (x:=V) (y:= [32,120,120,10,116,97,107,101,32,48,32,49,49,10,108,97,115,116,10,112,97,105,114,115,10,110,111,100,101,115,10,115,97,118,101,10,114,101,108,111,97,100,10,115,97,118,101,10,100,101,108,101,116,101,32]) L (by decide:_<=55) oM;obtain ⟨X,a7,am,N⟩:=tE (x:=W) (y:=A) M j oM;obtain ⟨p,a8,an,Y⟩:=tE (x:=X) (y:= [32,50,10,108,111,99,97,116,101,32,111,10,100,101,108,101,116,101,32,48,32,57,57,10,108,101,110,10,99,111,117,110,116,32,10,108,111,99,97,116,101,32,10,105,110,115,101,114,116,32,48,32]) N (by decide:_<=52) oM;have B:=fun w1 (i:Below a.heap.size a w1)=>aEt (d.below i t u v);have q:=fun w1 (i:Below a.heap.size a w1)=>aBr 40 b (s:=p) oM H I oM (d.below i t u v);have r:=fun w1 (i:Below a.heap.size a w1)=>aGI 40 b (s:=p) oM H I oM (d.below i t u v).tab;obtain ⟨a2,C⟩:=eqx (runS rhoS b 40 p);rw [C] at q r;obtain ⟨O,P,Q,S⟩:=hqq4 B q r w;clear B q r w d G j C J K L M N Y;go_enter func3,ntmps3;go_wp2_with fail;refine (S.out a).mono ?_;rintro f w1 ⟨rfl,rfl⟩;go_wp2_with fail;refine (O.out a bR).mono ?_;rintro f a0 ⟨rfl,D⟩;have m:=lhd D;clear D;go_wp2_with fail;refine (P.out a0 m.out).mono ?_;rintro f a1 ⟨rfl,E⟩;have o:=lhd (m.out.trans (E.mono m.out.size));clear E;go_wp2_with fail;refine (Q.out a1 o.out).mono ?_;rintro f ah ⟨rfl,F⟩;have R:=lhd (o.out.trans (F.mono o.out.size));clear F;go_wp2_with fail;go_ret;exact ⟨by first | rfl | simp,R.out⟩
end
end Go.Proofs.YtcoooelofcejbaaGreatDoor
