/- Lemmas of the walk. Conditions: each its own. -/
import Derived.Test.YtcoooelofcejbaaGreatDoorPd3
import Derived.Test.YtcoooelofcejbaaGreatDoorPd5
import Derived.Test.YtcoooelofcejbaaGreatDoorProg
set_option linter.all false
set_option maxRecDepth 100000
set_option maxHeartbeats 4000000
open Go.Proofs.Tryz
namespace Go.Proofs.YtcoooelofcejbaaGreatDoor
section
open Go.ChangeShapes Go.WideShapes Go.ChangeAt Go.RowKit
def aE5:laidOutB prog=true:=by kernel_rfl
def own:ownKnob prog.godebug=none:=by kernel_rfl
end
section
def aKx:List UInt8:= [48,49,50,51,52,53,54,55,56,57]
def aKq:List UInt8:= [48,49,50,51,52,53,54,55,56,57,97,98,99,100,101,102]
def aJD {a:Nat} (b:a < 10):(aKx.drop a).take (a+1 - a)= [UInt8.ofNat (48+a)]:=by
 have:∀a,a < 10->(aKx.drop a).take (a+1 - a)= [UInt8.ofNat (48+a)]:=dC;exact this a b
def aJB {a:Nat} (b:a < 16):(aKq.drop a).take (a+1 - a)= [jN a]:=by
 have:∀a,a < 16->(aKq.drop a).take (a+1 - a)= [jN a]:=dC;exact this a b
def aIt {a:Nat} (c:9 < a) (b:List UInt8):Lib.decDigits (a / 10)++([UInt8.ofNat (48+a % 10)]++b)=Lib.decDigits a++b:=by
 conv=>rhs;rw [Lib.decDigits,dif_neg (by omega:¬a < 10)]
 rw [zCo]
def aIa (a:Nat):Lib.itoa (a:Int)=Lib.decDigits a:=by
 unfold Lib.itoa;rw [zBw oM];rfl
def aJH (a:Nat):Lib.decDigits a≠ []:=by
 rw [Lib.decDigits];split <;> simp
def aJx (a:Int):Lib.itoa a≠ []:=by
 unfold Lib.itoa;split
 · simp
 exact aJH _
def iP:∀(a b:Nat),a < 10 ^(b+1)->(Lib.decDigits a).length<=b+1
 | a,0,h=>by rw [Lib.decDigits,dif_pos (by simpa using h)];simp
 | a,b+1,h=>by
   rw [Lib.decDigits];split
   · simp
   have:=iP (a / 10) b (by rw [Nat.pow_succ] at h;omega);rw [zAi];simp only [zCg,List.length_nil];omega
def rC {n:Int} (a:-9223372036854775808<=n) (b:n<=9223372036854775807):(Lib.itoa n).length<=20:=by
 unfold Lib.itoa;split;have:=iP n.natAbs 18 (by simp only [Nat.reduceAdd,Nat.reducePow];omega);rw [zCg];omega;have:=iP n.toNat 18 (by simp only [Nat.reduceAdd,Nat.reducePow];omega);omega
def zX {a:List (List UInt8)} (b:List UInt8) (c:a≠ []):Lib.join (a++ [b]) [32]=Lib.join a [32]++ [32]++b:=by
 cases a with
 | nil=>exact absurd rfl c
 | cons e d=>
   rw [List.cons_append,Lib.join_cons,Lib.join_cons];simp [Lib.joinTail]
def aA2 (c:List (List UInt8)) (b:Nat) (j:∀f∈c,f.length<=b):(Lib.join c [32]).length<=c.length*(b+1):=by
 cases c with
 | nil=>simp [Lib.join]
 | cons f o=>
   rw [Lib.join_cons];have m:∀a:List (List UInt8),(∀g∈a,g.length<=b)->(Lib.joinTail [32] a).length<=a.length*(b+1):=by
    intro a
    induction a with
    | nil=>intro _;simp [Lib.joinTail]
    | cons g a n=>
      intro k;have d:=n fun i e=>k i (by simp [e]);have l:=k g (by simp);unfold Lib.joinTail at d⊢;rw [List.map_cons,List.flatten_cons,zAi,zCg,Nat.add_mul];simp only [zAi,zCg,List.length_nil] at d⊢;omega
   have d:=m o fun i e=>j i (by simp [e]);have l:=j f (by simp);rw [zAi,zCg,Nat.add_mul];omega
def sV (a:List Int):List UInt8:=Lib.join (a.map Lib.itoa) [32]
def aHK {b:List Int} {a:Nat} {d:Int} (e:b[a]?=some d):sV (b.take (a+1))=(if 0 < a then sV (b.take a)++ [32] else sV (b.take a))++Lib.itoa d:=by
 unfold sV;rw [zAv,e,zAz];show Lib.join ((b.take a).map Lib.itoa++ [Lib.itoa d]) [32]=_;have g:=(zAc.1 e).1;rcases zBa a with c | c
 · subst c;rw [zBw oM];simp [Lib.join_one,Lib.join_nil]
 rw [zBx c,zX];intro f;have:=congrArg List.length f;rw [zBc,zAj,List.length_nil] at this;omega
def aJh (a:List Int):aZ a=if sV a= [] then [110,111,110,101] else sV a:=by
 unfold aZ;cases a with
 | nil=>rfl
 | cons b d=>
   have:sV (b::d)≠ []:=(by unfold sV;rw [List.map_cons,Lib.join_cons];intro c;exact aJx b (List.append_eq_nil_iff.1 c).1);rw [zBw (by simp),zBw this];rfl
def aJg {l:List Int} (b:∀a∈l,-9223372036854775808<=a/\a<=9223372036854775807):(sV l).length<=l.length*21:=by
 have:=aA2 (l.map Lib.itoa) 20 fun e d=>by obtain ⟨a,c,rfl⟩:=zAy.1 d;exact rC (b a c).1 (b a c).2
 rw [zBc] at this;exact this
def zZ (b:List UInt8) (a:UInt8):gT (b++ [a])=gT b++ [jN (a.toNat / 16)]++ [jN (a.toNat % 16)]:=by
 unfold gT;rw [List.flatMap_append];simp
def lB (a:List UInt8):(gT a).length=2*a.length:=by
 induction a with
 | nil=>rfl
 | cons c a b=>
   unfold gT at b⊢;rw [List.flatMap_cons,zAi,b];simp;omega
def aHV {b:List UInt8} {a:Nat} {c:UInt8} (d:b[a]?=some c):mN (b.take (a+1))=mN (b.take a)*10+(c.toNat - 48):=by
 unfold mN;rw [zAv,d,List.foldl_append];rfl
def aIq {b:List UInt8} {a:Nat} {c:UInt8} (d:b[a]?=some c) (e:(b.take a).all cQ=true):(b.take (a+1)).all cQ=cQ c:=by
 rw [zAv,d,List.all_append,e];simp
def aKw {b:List UInt8} {a:UInt8} (e:a∈b) (c:cQ a=false):b.all cQ=false:=by
 cases d:b.all cQ with
 | false=>rfl
 | true=>rw [zBf.1 d a e] at c;cases c
def yH (a:List UInt8):Int:=((jA a).map fun (b:Nat)=>(b:Int)).getD (-1)
def aAV {l:List UInt8} (a:l= []∨6 < l.length∨l.all cQ=false):yH l=-1:=by
 unfold yH jA;rw [zBx a];rfl
def aHW {b:List UInt8} (d:b≠ []) (e:b.length<=6) (c:b.all cQ=true):yH b=(mN b:Int):=by
 unfold yH jA;rw [zBw (by rintro (a | a | a);exact d a;omega;rw [c] at a;cases a)];rfl
def aFh:∀ {l:List UInt8},(∀a∈l,a≠32)->cV l=(l, [],false)
 | [],_=>rfl
 | a::l,h=>by unfold cV;rw [zBw (h a (by simp)),aFh fun b c=>h b (by simp [c])]
def aFi:∀ {l:List UInt8} {i:Nat},(∀b∈l.take i,b≠32)->l[i]?=some 32->cV l=(l.take i,l.drop (i+1),true)
 | [],i,_,a=>by simp at a
 | b::l,0,_,a=>by simp at a;subst a;rfl
 | b::l,i+1,a,hi=>by unfold cV;rw [zBw (a b (by simp)),aFi (l:=l) (i:=i) (fun c d=>a c (by simp [d])) (by simpa using hi)];rfl
def mX (f:UInt8):∀ {k:List UInt8} {a:List (List UInt8)} {b:List UInt8},bW k=a++ [b]->bW (k++ [f])=if f=10 then a++ [b]++ [[]] else a++ [b++ [f]]
 | [],a,b,c=>by
   have e:a= []/\b= []:=by
     cases a with
     | nil=>simpa [bW] using c.symm
     | cons o n=>simp [bW] at c
   obtain ⟨rfl,rfl⟩:=e;simp [bW]
 | i::k,a,b,c=>by
   obtain ⟨g,d,l⟩:∃g d,bW k=g++ [d]:=⟨_,_,(List.dropLast_concat_getLast (lA k)).symm⟩;have q:=mX f l;rw [List.cons_append];unfold bW at c⊢;by_cases p:i=10
   · rw [zBx p] at c⊢;rw [q];rw [l] at c;have e:a= []::g/\b=d:=(by have j: []::g++ [d]=a++ [b]:=c;have:=List.append_inj' j rfl;exact ⟨this.1.symm,by simpa using this.2.symm⟩);obtain ⟨rfl,rfl⟩:=e;split <;> simp
   · rw [zBw p] at c⊢;rw [q];rw [l] at c;cases g with
     | nil=>
       have e:a= []/\b=i::d:=(by have j: []++ [i::d]=a++ [b]:=c;have:=List.append_inj' j rfl;exact ⟨this.1.symm,by simpa using this.2.symm⟩);obtain ⟨rfl,rfl⟩:=e;by_cases m:f=10 <;> simp [m]
     | cons o n=>
       have e:a=(i::o)::n/\b=d:=(by have j:(i::o)::n++ [d]=a++ [b]:=c;have:=List.append_inj' j rfl;exact ⟨this.1.symm,by simpa using this.2.symm⟩);obtain ⟨rfl,rfl⟩:=e;by_cases m:f=10 <;> simp [m]
end
section
open Go.RowKit
def aHH {a5:Option Addr} {q:Nat} (D:Nat) {z:List Shp} {ag:Nat} {A:World} (ae:Rd A ag 4 a5 q (bN z)) (ay:ag<=A.heap.size) (bu:q<=1000) (aF:∀o∈z,(0<=o.len/\o.len<=1100)/\(0<=o.leaves/\o.leaves<=1100)/\(0<=o.nodes/\o.nodes<=2200)):
 Calls prog 57 #[.slice a5 q D] A fun a9 b5=>(∃l x k:Int,a9=.returned (.agg #[.int .i64 l,.int .i64 x,.int .i64 k,.int .i64 (eQ z).nodes]))/\Below A.heap.size A b5:=by
 have aE:z.length=q:=by have:=ae.1;rw [qI] at this;omega
 obtain ⟨t,Q⟩:=eqx A.heap.size;obtain ⟨d,ad⟩:=eqx (t+1);obtain ⟨a8,S⟩:=eqx ((A.alloc (.cells #[.int .i64 0,.int .i64 0,.int .i64 0,.int .i64 0] 89)).alloc (.cells #[.int .i64 0,.int .i64 0,.int .i64 0,.int .i64 0] 89));have aB:Below t A a8:=by rw [<-S,<-Q];exact (bR.alloc nL _).alloc (by simp) _
 have r:Bk a8 t 89 #[.int .i64 0,.int .i64 0,.int .i64 0,.int .i64 0]:=by rw [<-S,<-Q];exact (Bk.new A _ _).alloc _
 have B:Bk a8 d 89 #[.int .i64 0,.int .i64 0,.int .i64 0,.int .i64 0]:=by rw [<-S,<-ad,<-Q];have:=Bk.new (A.alloc (.cells #[.int .i64 0,.int .i64 0,.int .i64 0,.int .i64 0] 89)) 89 #[.int .i64 0,.int .i64 0,.int .i64 0,.int .i64 0];rw [World.size_alloc] at this;exact this
 have a1:t≠d:=oM;have aD:t<=d:=oM;have a0:∃e g,0 < q->a5=some ⟨e,g,none⟩/\∀(a:Nat) (o:Shp),z[a]?=some o->∀b,Below t A b->b.cell? ⟨e,g+a*4,none⟩=some (.int .i64 o.len)/\b.cell? ⟨e,g+a*4+1,none⟩=some (.int .i64 o.height)/\b.cell? ⟨e,g+a*4+2,none⟩=some (.int .i64 o.leaves)/\b.cell? ⟨e,g+a*4+3,none⟩=some (.int .i64 o.nodes):=by rcases zBa q with aw | aw;exact ⟨0,0,fun av=>by omega⟩;obtain ⟨e,g,a9,U,F⟩:=(ae.mono ay).2 aw;rw [Q] at U;exact ⟨e,g,fun _=>⟨a9,fun a o V b a3=>⟨(a3.cell U).trans (F (a*4+0) _ ((dO z a 0 o V oM).trans rfl)),(a3.cell U).trans (F (a*4+1) _ ((dO z a 1 o V oM).trans rfl)),(a3.cell U).trans (F (a*4+2) _ ((dO z a 2 o V oM).trans rfl)),(a3.cell U).trans (F (a*4+3) _ ((dO z a 3 o V oM).trans rfl))⟩⟩⟩
 obtain ⟨e,g,a0⟩:=a0;obtain ⟨aU,ak,aW,aK,aN,aQ,aT,aj,aV⟩:=hqq9 a0 aE aF S aB r B Q ad;have X:=lhd aD;clear a0 aE aF S aB r B Q ad ae ay aD;rw [aj.out];go_enter func57,ntmps57;go_wp2_with fail;rw [aK.out]
 try rw [aj.out]
 try rw [aV.out]
 go_loopw [4] (fun a4 wr=>∃(a:Nat) (l x k m:Int),a<=q/\a4=.int .i64 (a:Int)/\Bk wr d 89 #[.int .i64 l,.int .i64 x,.int .i64 k,.int .i64 m]/\Bk wr t 89 #[.int .i64 0,.int .i64 0,.int .i64 0,.int .i64 0]/\(0<=l/\l<=1100*(a:Int)/\0<=k/\k<=1100*(a:Int)/\0<=m/\m<=2200*(a:Int))/\(eQ (z.take a)).nodes=m/\Below t A wr) (fun a4 _=>q -(intOf a4).toNat)
 case atStart=>exact ⟨0,0,0,0,0,zAp _,rfl,aT.out,aQ.out,by omega,rfl,aN.out⟩
 case round=>
  obtain ⟨a,l,x,k,m,V,rfl,B,r,b0,aa,T⟩:=hrel;by_cases b2:a < q
  · obtain ⟨o,a2⟩:∃o,z[a]?=some o:=⟨_,zAa (by rw [ak.out];exact b2)⟩;have aG:=aW.out o (zAd a2);have ab:(eQ (z.take (a+1))).nodes=m+o.nodes:=(by rw [tO a2,<-aa];rfl);obtain ⟨w,Y,v,u⟩:=o;simp only at aG ab;obtain ⟨aY,F⟩:=aU.out oM;subst aY;have af:t<=wr.heap.size:=(by have:=r.lt;omega);have ax:∀b,Keep (fun _=>False) wr b->b.cell? ⟨e,g+a*4,none⟩=some (.int .i64 w)/\b.cell? ⟨e,g+a*4+1,none⟩=some (.int .i64 Y)/\b.cell? ⟨e,g+a*4+2,none⟩=some (.int .i64 v)/\b.cell? ⟨e,g+a*4+3,none⟩=some (.int .i64 u)/\b.cell? d=some (.int .i64 l)/\b.cell? ⟨d,1,none⟩=some (.int .i64 x)/\b.cell? ⟨d,2,none⟩=some (.int .i64 k)/\b.cell? ⟨d,3,none⟩=some (.int .i64 m):=fun b c=>by obtain ⟨b6,b7,b8,b9⟩:=F a _ a2 b (T.trans (c.to_below af fun _ _ s=>s.elim));have Z:=Keep.bk c B fun s=>s;exact ⟨b6,b7,b8,b9,Z.cell 0,Z.cell 1,Z.cell 2,Z.cell 3⟩
    have bv:(a:Int) < (q:Int):=oM;have aA:0<=l+w/\l+w<=1100*((a:Int)+1)/\0<=k+v/\k+v<=1100*((a:Int)+1)/\0<=m+u/\m+u<=2200*((a:Int)+1):=oM;have bw:IntKind.i64.wrap (l+w)=l+w:=(by rw [IntKind.wrap_i64];omega);have bx:IntKind.i64.wrap (k+v)=k+v:=(by rw [IntKind.wrap_i64];omega);have bz:IntKind.i64.wrap (m+u)=m+u:=(by rw [IntKind.wrap_i64];omega);obtain ⟨C,az⟩:∃C,(if x < Y then Y else x)=C:=⟨_,rfl⟩;obtain ⟨ah,aI,aJ,E,aS,aP,aL,aX⟩:=hqq8 az ab aA ax B r T af;clear ax B r T F a2 b0 af az aa ab aA aG;go_wp2_with fail;refine wp_region_any kR ?_;refine cS 33 [11,12,13,14,15,16,17,18,19,20,21,22,23,24,25,26,27,28,29,30,31,32,33,34,35,36,37,38,39,40,41,42,43] (fun _=>False) 0 [] (is d) [dJ,is (l:Int),is (.slice (some ⟨e,g,none⟩) q D),is (a:Int),is (.pointer (some ⟨e,g+a*4,none⟩)),is (.pointer (some ⟨e,g+a*4,none⟩)),is (w:Int),is (l+w:Int),is (.pointer (some ⟨d,1,none⟩)),is (x:Int),is (.slice (some ⟨e,g,none⟩) q D),is (a:Int),is (.pointer (some ⟨e,g+a*4,none⟩)),is (.pointer (some ⟨e,g+a*4+1,none⟩)),is (Y:Int),is (C:Int),is (.pointer (some ⟨d,2,none⟩)),is (k:Int),is (.slice (some ⟨e,g,none⟩) q D),is (a:Int),is (.pointer (some ⟨e,g+a*4,none⟩)),is (.pointer (some ⟨e,g+a*4+2,none⟩)),is (v:Int),is (k+v:Int),is (.pointer (some ⟨d,3,none⟩)),is (m:Int),is (.slice (some ⟨e,g,none⟩) q D),is (a:Int),is (.pointer (some ⟨e,g+a*4,none⟩)),is (.pointer (some ⟨e,g+a*4+3,none⟩)),is (u:Int),is (m+u:Int),is (.agg #[.int .i64 (l+w),.int .i64 C,.int .i64 (k+v),.int .i64 (m+u)])] _ rfl dC kR kR kR (trivial) (fun _ _ _ _ _=>trivial) (fun _ _ _ av _=>av) tA1 ?_ ?_
    · refine bH ?_;refine sC3 (fun N _ _ _ _ _ b3 _ _ _ _ n=>?_) ?_
      · have bo:N (.tmp 3)=.pointer (some d):=b3 3 kR;go_simp;exact n _ _ (bJ (Keep.refl _ _)) rfl
      refine sC3 (fun N b c _ _ _ _ j _ _ _ n=>?_) ?_
      · replace c:Keep (fun _=>False) wr b:=kD c;have b4:(is d) (N (.tmp 11)) b:=j 0 11 kR rfl;have be:N (.tmp 11)=.pointer (some d):=b4;obtain ⟨k0,G,H,I,J,K,L,M⟩:=E.out b c;go_simp;exact kq n rfl
      refine pH3 0 (.slice (some ⟨e,g,none⟩) q D) ?_;refine pH3 4 (.int .i64 (a:Int)) ?_;refine pW3 2 13 3 14 ?_;refine pV3 4 15 ?_;refine sC3 (fun _ b c _ _ _ _ j _ _ _ n=>?_) ?_
      · replace c:Keep (fun _=>False) wr b:=kD c;have bf:_=_:=j 5 16 kR rfl;obtain ⟨k0,G,H,I,J,K,L,M⟩:=E.out b c;go_simp;exact kq n rfl
      refine pW3 1 12 6 17 ?_;refine pH3 3 (.pointer (some d)) ?_;refine sC3 (fun _ b c _ _ _ _ j _ _ _ n=>?_) ?_
      · replace c:Keep (fun _=>False) wr b:=kD c;have bh:_=_:=j 8 19 kR rfl;obtain ⟨k0,G,H,I,J,K,L,M⟩:=E.out b c;go_simp;exact kq n rfl
      refine pH3 0 (.slice (some ⟨e,g,none⟩) q D) ?_;refine pH3 4 (.int .i64 (a:Int)) ?_;refine pW3 10 21 11 22 ?_;refine pV3 12 23 ?_;refine sC3 (fun _ b c _ _ _ _ j _ _ _ n=>?_) ?_
      · replace c:Keep (fun _=>False) wr b:=kD c;have bj:_=_:=j 13 24 kR rfl;obtain ⟨k0,G,H,I,J,K,L,M⟩:=E.out b c;go_simp;exact kq n rfl
      refine sC3 (fun _ _ _ _ _ _ _ j _ _ _ n=>?_) ?_
      · have bi:_=_:=j 9 20 kR rfl;have bl:_=_:=j 14 25 kR rfl;go_simp;exact n _ _ (aO bR) (dV (by first | exact ah.out |(rw [<-ah.out];split <;> omega)))
      refine pH3 3 (.pointer (some d)) ?_;refine sC3 (fun _ b c _ _ _ _ j _ _ _ n=>?_) ?_
      · replace c:Keep (fun _=>False) wr b:=kD c;have bn:_=_:=j 16 27 kR rfl;obtain ⟨k0,G,H,I,J,K,L,M⟩:=E.out b c;go_simp;exact kq n rfl
      refine pH3 0 (.slice (some ⟨e,g,none⟩) q D) ?_;refine pH3 4 (.int .i64 (a:Int)) ?_;refine pW3 18 29 19 30 ?_;refine pV3 20 31 ?_;refine sC3 (fun _ b c _ _ _ _ j _ _ _ n=>?_) ?_
      · replace c:Keep (fun _=>False) wr b:=kD c;have bp:_=_:=j 21 32 kR rfl;obtain ⟨k0,G,H,I,J,K,L,M⟩:=E.out b c;go_simp;exact kq n rfl
      refine pW3 17 28 22 33 ?_;refine pH3 3 (.pointer (some d)) ?_;refine sC3 (fun _ b c _ _ _ _ j _ _ _ n=>?_) ?_
      · replace c:Keep (fun _=>False) wr b:=kD c;have br:_=_:=j 24 35 kR rfl;obtain ⟨k0,G,H,I,J,K,L,M⟩:=E.out b c;go_simp;exact kq n rfl
      refine pH3 0 (.slice (some ⟨e,g,none⟩) q D) ?_;refine pH3 4 (.int .i64 (a:Int)) ?_;refine pW3 26 37 27 38 ?_;refine pV3 28 39 ?_;refine sC3 (fun _ b c _ _ _ _ j _ _ _ n=>?_) ?_
      · replace c:Keep (fun _=>False) wr b:=kD c;have bs:_=_:=j 29 40 kR rfl;obtain ⟨k0,G,H,I,J,K,L,M⟩:=E.out b c;go_simp;exact kq n rfl
      refine pW3 25 36 30 41 ?_;refine sC3 (fun _ _ _ _ _ _ _ j _ _ _ n=>?_) ?_
      · have bg:_=_:=j 7 18 kR rfl;have bm:_=_:=j 15 26 kR rfl;have bq:_=_:=j 23 34 kR rfl;have bt:_=_:=j 31 42 kR rfl;go_simp;exact kq n rfl
      exact aH
    · intro N W s c j;replace c:Keep (fun _=>False) wr W:=kD c;have aZ:N (.tmp 43)=.agg #[.int .i64 (l+w),.int .i64 C,.int .i64 (k+v),.int .i64 (m+u)]:=j 32 43 dC rfl;simp only [zqq];rw [aZ];clear j;have y:Bk W d 89 #[.int .i64 l,.int .i64 x,.int .i64 k,.int .i64 m]:=Keep.bk c aS.out fun s=>s;have ap:=y.frozen 0;have aq:=y.frozen 1;have ar:=y.frozen 2;have au:=y.frozen 3;have al:=y.cell 0;have am:=y.cell 1;have an:=y.cell 2;have ao:=y.cell 3;obtain ⟨aM,ai⟩:=hqq2 y c;clear y c;change wpAny prog Region.Mode.any _ _ (1+s) (bX 33 34) _ W;rw [zCt 1 s];refine bL (f:=s) (i:=33) kR ?_;refine bY rfl rfl ?_;generalize n:wpAny prog _ _ _ s _=K5;go_simp;subst n;refine bO kR ?_;have y:=aL.out.trans (ai.out.to_below aX.out fun _ _ s=>s.elim);have O:=(((y.setCell (p:=d) X.out (.int .i64 (l+w))).setCell (p:=⟨d,1,none⟩) X.out (.int .i64 C)).setCell (p:=⟨d,2,none⟩) X.out (.int .i64 (k+v))).setCell (p:=⟨d,3,none⟩) X.out (.int .i64 (m+u));have R:=(((aM.out.set 0 (.int .i64 (l+w))).set 1 (.int .i64 C)).set 2 (.int .i64 (k+v))).set 3 (.int .i64 (m+u));have aC:Bk W t 89 #[.int .i64 0,.int .i64 0,.int .i64 0,.int .i64 0]:=Keep.bk ai.out aP.out fun s=>s;have ac:=(((aC.far (p:=d) a1 (.int .i64 (l+w))).far (p:=⟨d,1,none⟩) a1 (.int .i64 C)).far (p:=⟨d,2,none⟩) a1 (.int .i64 (k+v))).far (p:=⟨d,3,none⟩) a1 (.int .i64 (m+u));generalize (((W.setCell d (.int .i64 (l+w))).setCell ⟨d,1,none⟩ (.int .i64 C)).setCell ⟨d,2,none⟩ (.int .i64 (k+v))).setCell ⟨d,3,none⟩ (.int .i64 (m+u))=w9 at O R ac⊢;obtain ⟨a6,a7,aR⟩:=hqq3 O R ac;clear O R aC ac y ap aq ar au al am an ao;go_wp2_with fail;go_roundw
      case rel=>exact ⟨a+1,l+w,C,k+v,m+u,by omega,by go_num,a7.out,aR.out,by have:=aJ.out;omega,aI.out,a6.out⟩
      case measure=>simp [intOf];omega
  · have b1:a=q:=oM;subst b1;have al:=B.cell 0;have am:=B.cell 1;have an:=B.cell 2;have ao:=B.cell 3;have ba:=r.cell 0;have bb:=r.cell 1;have bc:=r.cell 2;have bd:=r.cell 3;have ap:=r.frozen 0;have aq:=r.frozen 1;have ar:=r.frozen 2;have au:=r.frozen 3;have R:=(((r.set 0 (.int .i64 l)).set 1 (.int .i64 x)).set 2 (.int .i64 k)).set 3 (.int .i64 m);have O:=(((T.setCell (p:=t) nL (.int .i64 l)).setCell (p:=⟨t,1,none⟩) nL (.int .i64 x)).setCell (p:=⟨t,2,none⟩) nL (.int .i64 k)).setCell (p:=⟨t,3,none⟩) nL (.int .i64 m);obtain ⟨a7,a6⟩:=hqq2 R O;clear R O B r T;go_wp2_with fail;exact bodyPost_ret (results_cell_row (P:=prog) (fn:=f57) (p:=2) (ty:=89) rfl _ _ t 89 #[.int .i64 l,.int .i64 x,.int .i64 k,.int .i64 m] (0,0) _ rfl a7.out underlying89 rfl kR) rfl ⟨⟨l,x,k,by rw [<-aa,zAg (by rw [ak.out];exact zAs _)]⟩,a6.out⟩
end
end Go.Proofs.YtcoooelofcejbaaGreatDoor
