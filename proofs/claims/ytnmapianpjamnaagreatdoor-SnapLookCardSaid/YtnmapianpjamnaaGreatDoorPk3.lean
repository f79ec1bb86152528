/- Lemmas of the walk. Conditions: each its own. -/
import Derived.Test.YtnmapianpjamnaaGreatDoorPk1
import Derived.Test.YtnmapianpjamnaaGreatDoorProg
set_option linter.all false
set_option maxRecDepth 100000
set_option maxHeartbeats 4000000
namespace Go.Proofs.YtnmapianpjamnaaGreatDoor
open Tryz
open Go.RowKit
def gQ (a:List Bool):Array Value:=#[.int .i64 (a.length:Int),.int .u64 ((w0 a:Nat):Int),.int .u64 ((w1 a:Nat):Int)]
def aDp (a b:Nat) (e:a < 18446744073709551616) (f:b < 18446744073709551616):bits .or .u64 (a:Int) (b:Int)=((a||| b:Nat):Int):=
 (bits_nat .u64 64 dC (fun g c d=>by rw [IntKind.wrap_u64];omega) a b oM oM).2
def sJ (a3:Option Addr) (k ac a4:Nat) (e:List Bool) (n:World) (u:Rd n a4 1 a3 k (e.map Value.bool)) (ap:a4<=n.heap.size) (aG:k<=128):
 Calls prog 191 #[.slice a3 k ac] n fun J a9=>J=.returned (.tuple #[n.heap.size,.int .i64 0])/\Bk a9 n.heap.size 240 (gQ e)/\Below n.heap.size n a9:=by
 have a6:e.length=k:=by simpa using u.1
 obtain ⟨S,ab⟩:=hqq2 a6 (u.mono ap);have aD:¬((k:Int) > 128):=oM;clear u a6;obtain ⟨c,X⟩:=eqx n.heap.size;go_enter func191,ntmps191;go_wp2;have aq:=(Below.refl n.heap.size n).alloc nL (.cells #[(k:Int),.int .u64 0,.int .u64 0] 240);have a5:=Bk.new n 240 #[(k:Int),.int .u64 0,.int .u64 0];rw [X] at a5
 try rw [X]
 go_loopw [16] (fun a0 wr=>∃b:Nat,b<=k/\a0=.int .i64 b/\Bk wr c 240 #[(k:Int),.int .u64 ((w0 (e.take b):Nat):Int),.int .u64 ((w1 (e.take b):Nat):Int)]/\Below n.heap.size n wr) (fun a0 _=>k -(intOf a0).toNat)
 case atStart=>exact ⟨0,zAp _,rfl,a5,aq⟩
 case round=>
  obtain ⟨b,aF,rfl,x,w⟩:=hrel;have a8:=w.size;by_cases a7:b < k
  · have au:b < e.length:=(by rw [S.out];exact a7);obtain ⟨Q,P⟩:∃Q,e[b]?=some Q:=⟨e[b],zAa au⟩;obtain ⟨o,aH,aI,rfl,aA,Z,aB⟩:=(ab.out.below w).get a7;rw [zAf,P] at Z;simp at Z;subst Z;have y:e.take (b+1)=e.take b++ [Q]:=(by rw [zAv,P];rfl);have D:(e.take b).length=b:=(by rw [zAj];omega);cases Q with
    | false=>
      have s:w0 (e.take (b+1))=w0 (e.take b)/\w1 (e.take (b+1))=w1 (e.take b):=(by rw [y];rcases zBe b 64 with l | l;have:=pR (e.take b) false oM;simpa using this;have:=pS (e.take b) false oM;simpa using this);obtain ⟨Hn,aa⟩:=hqq2 s x;clear s y D P x;go_wp2;go_roundw
      case rel=>exact ⟨b+1,by omega,by go_num,by rw [Hn.out.1,Hn.out.2];exact aa.out,w⟩
      case measure=>simp [intOf];omega
    | true=>
      rcases zBe b 64 with ao | ao
      · obtain ⟨g,u⟩:∃g:Nat,g=b:=⟨_,rfl⟩;have aw:IntKind.i64.wrap ((b:Int)/ 64)=0:=(by rw [IntKind.wrap_i64];omega);have av:(b:Int).tmod 64=(g:Int):=(by rw [Int.tmod_eq_emod_of_nonneg oM];omega);have ax:IntKind.u64.wrap (g:Int)=(g:Int):=(by rw [IntKind.wrap_u64];omega);have Y:g < 64:=oM;obtain ⟨j,m⟩:∃j:Nat,j=2 ^ g:=⟨_,rfl⟩;have U:j < 18446744073709551616:=(by have:=Nat.pow_lt_pow_right (a:=2) dC Y;omega);obtain ⟨i,v⟩:∃i:Nat,i=w0 (e.take b):=⟨_,rfl⟩;obtain ⟨r,C⟩:∃r:Nat,r=w1 (e.take b):=⟨_,rfl⟩;obtain ⟨q,B⟩:∃q:Nat,q=i+j:=⟨_,rfl⟩;have L:i < j:=(by have:=aAF (e.take b) oM;rw [D] at this;rw [v,m,u];exact this);have s:=pR (e.take b) true oM;rw [<-y,<-v,<-C,D] at s;have N:w0 (e.take (b+1))=q/\w1 (e.take (b+1))=r:=⟨by rw [s.1,B,m,u];rfl,s.2⟩;have O:bits .or .u64 (i:Int) (j:Int)=(q:Int):=(by rw [aDp i j oM U,m,aA9 i g (by rw [<-m];exact L),B,m]);have R:=lhd O;have K:IntKind.u64.wrap ((2:Int)^ g)=(j:Int):=(by rw [m,IntKind.wrap_u64];have J:((2:Int)^ g)=((2 ^ g:Nat):Int):=(by push_cast;rfl);rw [J,<-m];omega);obtain ⟨H,I⟩:=hqq2 K N;rw [<-v,<-C] at x;clear O K s N v C B m L y D P u;go_wp2;refine wp_region_any kR ?_;refine dF [22,23,24,25,26,27,28,29,30,31,32,33,34,35,36] (fun o=>o=c) 15 [6,15] (fun w1=>Bk w1 c 240 #[(k:Int),.int .u64 (i:Int),.int .u64 (r:Int)]) (fun _ w1=>Bk w1 c 240 #[(k:Int),.int .u64 (q:Int),.int .u64 (r:Int)]) [is (.pointer (some ⟨c,0,none⟩)),is (b:Int),is (.int .i64 0),is (.pointer (some ⟨c,0,none⟩)),is (.pointer (some ⟨c,1,none⟩)),is (.pointer (some ⟨c,1,none⟩)),is (.int .u64 (i:Int)),is (b:Int),is (g:Int),is (.int .u64 (g:Int)),is (.int .u64 (j:Int)),is (.int .u64 (q:Int)),is (.pointer (some ⟨c,0,none⟩)),is (.pointer (some ⟨c,1,none⟩)),is (.pointer (some ⟨c,1,none⟩)),dU] _ _ rfl kR kR (x) (fun w1 az l _ W=>Bk.below l W l.lt) (fun _ _ _ l b=>Bk.below l b l.lt) tA1 ?_ ?_
        · refine bN ?_;refine pH3 4 (.pointer (some ⟨c,0,none⟩)) ?_;refine pH3 5 (.int .i64 (b:Int)) ?_;refine sC3 (fun _ _ _ _ _ _ _ d _ _ _ f=>?_) ?_
          · have ad:_=_:=d 1 23 kR rfl;go_simp;exact f _ _ (aC bR) (dH (by first | rfl | omega))
          refine pV3 0 22 ?_;refine pV3 3 25 ?_;refine pW3 4 26 2 24 ?_;refine sC3 (fun _ E _ A _ _ _ d _ _ _ f=>?_) ?_
          · have t:=A rfl;have ae:_=_:=d 5 27 kR rfl;have T:E.cell? ⟨c,1,none⟩=some (.int .u64 (i:Int)):=(t.cell 1).trans rfl;go_simp;exact kq f rfl
          refine pH3 5 (.int .i64 (b:Int)) ?_;refine sC3 (fun _ _ _ _ _ _ _ d _ _ _ f=>?_) ?_
          · have ag:_=_:=d 7 29 kR rfl;go_simp;exact f _ _ (aC bR) (dH (by first | rfl | omega))
          refine sC3 (fun _ _ _ _ _ _ _ d _ _ _ f=>?_) ?_
          · have ah:_=_:=d 8 30 kR rfl;go_simp;exact f _ _ (aC bR) (eA (by first | rfl | omega))
          refine sC3 (fun _ _ _ _ _ _ _ d _ _ _ f=>?_) ?_
          · have ai:_=_:=d 9 31 kR rfl;go_simp;exact f _ _ (aC bR) (eA (by first | exact H.out | simpa using H.out))
          refine sC3 (fun _ _ _ _ _ _ _ d _ _ _ f=>?_) ?_
          · have af:_=_:=d 6 28 kR rfl;have aj:_=_:=d 10 32 kR rfl;go_simp;exact f _ _ (aC bR) (eA R.out)
          refine pV3 0 22 ?_;refine pV3 12 34 ?_;refine pW3 13 35 2 24 ?_;refine sC3 (fun _ E _ A _ _ _ d _ _ _ f=>?_) ?_
          · have t:=A rfl;have al:_=_:=d 14 36 kR rfl;have ak:_=_:=d 11 33 kR rfl;have T:E.cell? ⟨c,1,none⟩=some (.int .u64 (i:Int)):=(t.cell 1).trans rfl;have an:=t.frozen 1;go_simp;exact f (.bool true) _ (cK (Keep.setCell (F:=fun o=>o=c) (Keep.refl _ _) (p:=⟨c,1,none⟩) (.inl rfl) _)) (t.set 1 _)
          exact aP
        · intro am G z d M;replace z:Keep (fun o=>o=c) wr G:=kD z;obtain ⟨ay,a1⟩:∃a2,(fun _ w1=>Bk w1 c 240 #[(k:Int),.int .u64 (q:Int),.int .u64 (r:Int)]) a2 G:=M 15 dC;simp only [zqq];clear d M;have V:Below n.heap.size n G:=w.trans (z.to_below a8 (fun o w l=>absurd (show o=c from l) oM));go_wp2;go_roundw
          case rel=>exact ⟨b+1,by omega,by go_num,by rw [I.out.1,I.out.2];exact a1,V⟩
          case measure=>simp [intOf];omega
      · obtain ⟨g,u⟩:∃g:Nat,g=b - 64:=⟨_,rfl⟩;have aw:IntKind.i64.wrap ((b:Int)/ 64)=1:=(by rw [IntKind.wrap_i64];omega);have av:(b:Int).tmod 64=(g:Int):=(by rw [Int.tmod_eq_emod_of_nonneg oM];omega);have ax:IntKind.u64.wrap (g:Int)=(g:Int):=(by rw [IntKind.wrap_u64];omega);have Y:g < 64:=oM;obtain ⟨j,m⟩:∃j:Nat,j=2 ^ g:=⟨_,rfl⟩;have U:j < 18446744073709551616:=(by have:=Nat.pow_lt_pow_right (a:=2) dC Y;omega);obtain ⟨i,v⟩:∃i:Nat,i=w1 (e.take b):=⟨_,rfl⟩;obtain ⟨r,C⟩:∃r:Nat,r=w0 (e.take b):=⟨_,rfl⟩;obtain ⟨q,B⟩:∃q:Nat,q=i+j:=⟨_,rfl⟩;have L:i < j:=(by have:=aAD (e.take b);rw [D] at this;rw [v,m,u];exact this);have s:=pS (e.take b) true oM;rw [<-y,<-v,<-C,D] at s;have N:w1 (e.take (b+1))=q/\w0 (e.take (b+1))=r:=⟨by rw [s.2,B,m,u];rfl,s.1⟩;have O:bits .or .u64 (i:Int) (j:Int)=(q:Int):=(by rw [aDp i j oM U,m,aA9 i g (by rw [<-m];exact L),B,m]);have R:=lhd O;have K:IntKind.u64.wrap ((2:Int)^ g)=(j:Int):=(by rw [m,IntKind.wrap_u64];have J:((2:Int)^ g)=((2 ^ g:Nat):Int):=(by push_cast;rfl);rw [J,<-m];omega);obtain ⟨H,I⟩:=hqq2 K N;rw [<-v,<-C] at x;clear O K s N v C B m L y D P u;go_wp2;refine wp_region_any kR ?_;refine dF [22,23,24,25,26,27,28,29,30,31,32,33,34,35,36] (fun o=>o=c) 15 [6,15] (fun w1=>Bk w1 c 240 #[(k:Int),.int .u64 (r:Int),.int .u64 (i:Int)]) (fun _ w1=>Bk w1 c 240 #[(k:Int),.int .u64 (r:Int),.int .u64 (q:Int)]) [is (.pointer (some ⟨c,0,none⟩)),is (b:Int),is (.int .i64 1),is (.pointer (some ⟨c,0,none⟩)),is (.pointer (some ⟨c,1,none⟩)),is (.pointer (some ⟨c,2,none⟩)),is (.int .u64 (i:Int)),is (b:Int),is (g:Int),is (.int .u64 (g:Int)),is (.int .u64 (j:Int)),is (.int .u64 (q:Int)),is (.pointer (some ⟨c,0,none⟩)),is (.pointer (some ⟨c,1,none⟩)),is (.pointer (some ⟨c,2,none⟩)),dU] _ _ rfl kR kR (x) (fun w1 az l _ W=>Bk.below l W l.lt) (fun _ _ _ l b=>Bk.below l b l.lt) tA1 ?_ ?_
        · refine bN ?_;refine pH3 4 (.pointer (some ⟨c,0,none⟩)) ?_;refine pH3 5 (.int .i64 (b:Int)) ?_;refine sC3 (fun _ _ _ _ _ _ _ d _ _ _ f=>?_) ?_
          · have ad:_=_:=d 1 23 kR rfl;go_simp;exact f _ _ (aC bR) (dH (by first | rfl | omega))
          refine pV3 0 22 ?_;refine pV3 3 25 ?_;refine pW3 4 26 2 24 ?_;refine sC3 (fun _ E _ A _ _ _ d _ _ _ f=>?_) ?_
          · have t:=A rfl;have ae:_=_:=d 5 27 kR rfl;have T:E.cell? ⟨c,2,none⟩=some (.int .u64 (i:Int)):=(t.cell 2).trans rfl;go_simp;exact kq f rfl
          refine pH3 5 (.int .i64 (b:Int)) ?_;refine sC3 (fun _ _ _ _ _ _ _ d _ _ _ f=>?_) ?_
          · have ag:_=_:=d 7 29 kR rfl;go_simp;exact f _ _ (aC bR) (dH (by first | rfl | omega))
          refine sC3 (fun _ _ _ _ _ _ _ d _ _ _ f=>?_) ?_
          · have ah:_=_:=d 8 30 kR rfl;go_simp;exact f _ _ (aC bR) (eA (by first | rfl | omega))
          refine sC3 (fun _ _ _ _ _ _ _ d _ _ _ f=>?_) ?_
          · have ai:_=_:=d 9 31 kR rfl;go_simp;exact f _ _ (aC bR) (eA (by first | exact H.out | simpa using H.out))
          refine sC3 (fun _ _ _ _ _ _ _ d _ _ _ f=>?_) ?_
          · have af:_=_:=d 6 28 kR rfl;have aj:_=_:=d 10 32 kR rfl;go_simp;exact f _ _ (aC bR) (eA R.out)
          refine pV3 0 22 ?_;refine pV3 12 34 ?_;refine pW3 13 35 2 24 ?_;refine sC3 (fun _ E _ A _ _ _ d _ _ _ f=>?_) ?_
          · have t:=A rfl;have al:_=_:=d 14 36 kR rfl;have ak:_=_:=d 11 33 kR rfl;have T:E.cell? ⟨c,2,none⟩=some (.int .u64 (i:Int)):=(t.cell 2).trans rfl;have an:=t.frozen 2;go_simp;exact f (.bool true) _ (cK (Keep.setCell (F:=fun o=>o=c) (Keep.refl _ _) (p:=⟨c,2,none⟩) (.inl rfl) _)) (t.set 2 _)
          exact aP
        · intro am G z d M;replace z:Keep (fun o=>o=c) wr G:=kD z;obtain ⟨ay,a1⟩:∃a2,(fun _ w1=>Bk w1 c 240 #[(k:Int),.int .u64 (r:Int),.int .u64 (q:Int)]) a2 G:=M 15 dC;simp only [zqq];clear d M;have V:Below n.heap.size n G:=w.trans (z.to_below a8 (fun o w l=>absurd (show o=c from l) oM));go_wp2;go_roundw
          case rel=>exact ⟨b+1,by omega,by go_num,by rw [I.out.1,I.out.2];exact a1,V⟩
          case measure=>simp [intOf];omega
  · have aE:k<=b:=oM;have y:e.take b=e:=zAg (by have:=S.out;omega);rw [y] at x;have ar:Bk wr c 240 (gQ e):=(by unfold gQ;rw [S.out];exact x);clear y x;go_wp2;go_ret2;rw [X] at w⊢;exact ⟨rfl,ar,w⟩
def sK (b:Nat) (c:List Bool) (a:World) (e:Bk a b 240 (gQ c)):
 Calls prog 232 #[b] a fun d f=>d=.returned (.int .i64 (c.length:Int))/\a=f:=by
 have g:a.cell? b=some (.int .i64 (c.length:Int)):=(e.cell 0).trans rfl;go_enter func232,ntmps232;go_wp2;go_ret;exact ⟨rfl,rfl⟩
def aDb {d:World} {a:Nat} {c:List Bool} (e:Bk d a 240 (gQ c)):Rd d d.heap.size 1 (some ⟨a,1,none⟩) 2 ([w0 c,w1 c].map uvn):=by
 refine ⟨rfl,fun _=>⟨a,1,rfl,e.lt,fun f g b=>?_⟩⟩;rw [e.cell];rcases f with _ | _ | f;exact b;exact b
 · simp at b
def pQ (d:Nat) (a:List Bool) (b:World) (i:Bk b d 240 (gQ a)) (e:a.length<=128):
 Calls prog 269 #[d] b fun c g=>c=.returned (.int .i64 ((a.count true:Nat):Int))/\b=g:=by
 have j:(([w0 a,w1 a].map fun k=>aI k 64).sum)=a.count true:=by rw [<-aCO a e];simp
 go_enter func269,ntmps269;go_wp2_with fail;refine (eD _ 2 2 _ [w0 a,w1 a] _ (aDb i) (by intro l f;simp at f;rcases f with rfl | rfl;exact nP a;exact nO a e) oM).mono ?_;rintro c g ⟨rfl,rfl⟩;rw [j];go_wp2;go_ret;exact ⟨rfl,rfl⟩
def ix0 (a c:Int) (b:World):(Instr.index 238 (.agg #[.int .u64 a,.int .u64 c]) (.int .i64 0)).run prog b=.ok (.int .u64 a) b:=by kernel_rfl
def ix1 (c a:Int) (b:World):(Instr.index 238 (.agg #[.int .u64 c,.int .u64 a]) (.int .i64 1)).run prog b=.ok (.int .u64 a) b:=by kernel_rfl
def pP (i:Nat) (b:List Bool) (a:Nat) (d:World) (c:Bk d i 240 (gQ b)) (v:b.length<=128) (u:a<=b.length):
 Calls prog 238 #[i,(a:Int)] d fun m r=>m=.returned (.int .i64 (((b.take a).count true:Nat):Int))/\Below d.heap.size d r:=by
 have p:=aCN b a v u;obtain ⟨j,w⟩:=eqx b.length;obtain ⟨e,k⟩:=eqx (w0 b);obtain ⟨g,l⟩:=eqx (w1 b);have D:e < 18446744073709551616:=by rw [<-k];exact nP b
 have b1:g < 18446744073709551616:=by rw [<-l];exact nO b v
 have y:oC e (a:Int)=aI e (min a 64):=by unfold oC;rw [zBq]
 have z:oC g ((a:Int) - 64)=aI g (min (a - 64) 64):=by unfold oC;congr 2;omega
 rw [k,l] at p;have N:=jC e (min a 64);have O:=jC g (min (a - 64) 64);have E:d.cell? i=some (.int .i64 (j:Int)):=by rw [<-w];exact (c.cell 0).trans rfl
 have s:d.cell? ⟨i,1,none⟩=some (.int .u64 (e:Int)):=by rw [<-k];exact (c.cell 1).trans rfl
 have t:d.cell? ⟨i,2,none⟩=some (.int .u64 (g:Int)):=by rw [<-l];exact (c.cell 2).trans rfl
 have F:=c.lt;have K:a<=j:=oM;have L:j<=128:=oM;have P:max (a:Int) 0=(a:Int):=oM;have Q:min (a:Int) (j:Int)=(a:Int):=oM;obtain ⟨A,B⟩:=hqq2 p y;have k0:=ix0;have M:=ix1;have C:=lhd z;clear c p k l w u y z;go_enter func238,ntmps238;go_wp2_with fail;go_loopw [5,14] (fun H q wr=>∃f:Nat,f<=2/\q=.int .i64 f/\H=.int .i64 (((if f=0 then 0 else if f=1 then aI e (min a 64) else (b.take a).count true):Nat):Int)/\Below d.heap.size d wr) (fun _ q _=>2 -(intOf q).toNat)
 case atStart=>exact ⟨0,by omega,rfl,rfl,Below.refl _ _⟩
 case round=>
  obtain ⟨f,J,rfl,rfl,c⟩:=hrel;have x:=c.size;have I:wr.cell? i=some (.int .i64 (j:Int)):=(c.cell F).trans E;rcases f with _ | _ | _ | f
  · clear s t;simp only [if_true];go_wp2_with fail;refine (lQ e (a:Int) D oM _).mono ?_;rintro m r ⟨rfl,o⟩;rw [B.out];have n:=c.trans (o.mono x);go_wp2_with fail;go_roundw
    case rel=>exact ⟨1,by omega,by go_num,by simp,n⟩
    case measure=>simp [intOf]
  · clear s t;simp only [zBi,Nat.one_ne_zero,if_false,if_true];go_wp2_with fail;refine (lQ g ((a:Int) - 64) b1 oM _).mono ?_;rintro m r ⟨rfl,o⟩;rw [C.out];have n:=c.trans (o.mono x);have G:(((aI e (min a 64):Nat):Int)+((aI g (min (a - 64) 64):Nat):Int))=(((b.take a).count true:Nat):Int):=(by rw [<-A.out];push_cast;rfl);go_wp2_with fail;go_roundw
    case rel=>exact ⟨2,by omega,by go_num,by first | rfl |(simp;done)| exact dH (by simpa using G),n⟩
    case measure=>simp [intOf]
  · simp only [show ¬(0+1+1=0) by omega,show ¬(0+1+1=1) by omega,if_false];go_wp2;go_ret;exact ⟨rfl,c⟩
  omega
def aBN (e:World->World->Prop) (a:Value->World->Prop):Prop:=∀b c d,a b c->e c d->a b d
def nB (a:World->World->Prop) (b:Value):aBN a (is b):=fun _ _ _ c _=>c
def sZ (a:World->World->Prop):aBN a dU:=fun _ _ _ _ _=>trivial
def fC {i:World->World->Prop} {c:List (Value->World->Prop)} (j:∀g∈c,aBN i g):∀b d e f,Vs c b d e->i e f->Vs c b d f:=by
 intro b d e f a k;unfold Vs at a⊢;rw [zAb] at a⊢;rcases hl:c[b]? with _ | g;rw [hl] at a;exact a;rw [hl] at a;exact j g (zAd hl) d e f a k
def jO (d:Nat) (f:Option Addr) (i:Nat) (g:Option Addr) (j a b:Nat) (c:World) (e:Bk c d 228 #[.slice f a i,.slice g b j,.int .i64 268435456]) (q:a<=1048576) (p:b<=a):
 Calls prog 215 #[d] c fun k l=>k=.returned (.int .i64 ((a - b:Nat):Int))/\Below c.heap.size c l:=by
 have m:c.cell? d=some (.slice f a i):=(e.cell 0).trans rfl;have n:c.cell? ⟨d,1,none⟩=some (.slice g b j):=(e.cell 1).trans rfl;have o:IntKind.i64.wrap ((a:Int) -(b:Int))=((a - b:Nat):Int):=by rw [IntKind.wrap_i64];omega
 clear e;go_enter func215,ntmps215;go_wp2;go_quiet (fail);go_wp2;go_ret;exact ⟨cZ oM,below_drewN bR _⟩
def lI (q a:Nat) (d:Option Addr) (f:Nat) (o:Option Addr) (r b:Nat) (O:List Bool) (g:World) (s:Bk g a 228 #[.slice d b f,.slice o 0 r,.int .i64 268435456]) (z:g.ownsRow q 4 1 (.slice d b f) b (O.map Value.bool)) (ah:q<=g.heap.size) (ai:b<=1000000):
 Calls prog 157 #[a] g fun I v=>I=.returned (.tuple #[(b:Int),.int .i64 0])/\Keep (fun e=>e=a∨(Value.slice d b f).ownBlock=some e) g v/\∃u,Bk v a 228 #[u,.slice o 0 r,.int .i64 268435456]/\v.ownsRow q 4 1 u (b+1) ((O++ [true]).map Value.bool)/\(u.ownBlock=(Value.slice d b f).ownBlock∨∃J,u.ownBlock=some J/\g.heap.size<=J):=by
 obtain ⟨a9,Z,a6,a7,a8⟩:=info_parts qK;have aj:=s.lt;obtain ⟨k,S,R⟩:=hqq3 s z (aQ z s dC);clear s z;go_enter func157,ntmps157;go_wp2;refine wp_region_any kR ?_;refine cX [10,11,12,13,14,15,16,9] (Grow) (Vs [is a,is (b:Int),is a,is a,is (.pointer (some ⟨a,2,none⟩)),is (.int .i64 268435456),is (.bool false),is (.bool false)]) _ _ rfl kR bR (fun _ _=>Grow.trans) (fC tA0) ?_ ?_
 · refine bN ?_;refine pH 0 (.pointer (some a)) ?_;refine sC (fun _ i c _ _ _ j _ _ _ x=>?_) ?_
   · have ad:_=_:=j 0 10 kR rfl;replace c:(Grow) g i:=gD c;go_simp;refine (jO a d f o r b 0 i (k.out.below c k.out.lt) oM oM).mono ?_;rintro I ao ⟨rfl,Y⟩;exact x _ _ Y rfl
   refine pH 0 (.pointer (some a)) ?_;refine pV 2 12 ?_;refine pV 3 13 ?_;refine pL 4 14 (fun i c=>have c:(Grow) g i:=gD c;(((k.out.below c k.out.lt).cell 2).trans rfl:i.cell? ⟨a,2,none⟩=some (.int .i64 268435456))) ?_;refine sC (fun _ _ _ _ _ _ j _ _ _ x=>?_) ?_
   · have ae:_=_:=j 1 11 kR rfl;have af:_=_:=j 5 15 kR rfl;have ak:((b:Int)==268435456)=false:=(by simp;omega);go_simp;exact x _ _ bR (by first | rfl | simp [is] |(simp [is];omega))
   refine pV 6 16 ?_;exact aP
 · intro W n c j;replace c:(Grow) g n:=gD c;have V:W (.tmp 9)=.bool false:=j 7 9 rfl;simp only [zqq];rw [V];clear j;have m:=k.out.below c k.out.lt;have a5:=Below.size c;have N:=aF S.out c;have U:n.cell? ⟨a,1,none⟩=some (.slice o 0 r):=(m.cell 1).trans rfl;have G:n.cell? a=some (.slice d b f):=(m.cell 0).trans rfl;have X:=m.frozen 0;have M:a < n.heap.size:=oM;obtain ⟨w,C,E⟩:=hqq3 c m N;clear c m N;generalize n=W2 at C a5 G U X w M E⊢;have aa:=(World.cell?_alloc_lt W2 (Obj.cells #[.bool true] 4) ⟨a,0,none⟩ M).trans G;go_wp2_with (at_builtin;refine aZ _ rfl (.tmp 53) (.tmp 54) _ rfl q 4 a9 (.bool false) 1 1 underlying138 Z a6 a7 a8 rfl dC (.slice d b f) b _ rfl E.out rfl rfl (by simp [Value.oneCell']) (by unfold maxLen;omega) oM oM ?_;intro an i A y al K;have t:=C.out.grown y R.out;obtain ⟨T,Q,P,D⟩:=hqq4 A y K t;have ac:i.cell? a=some (.slice d b f):=(t.cell 0).trans rfl;have ag:=t.frozen 0;obtain ⟨B,H,rfl,a3⟩:=aO A;clear A y K t a3);go_ret2;have a4:=Keep.setCell (F:=fun e=>e=a∨(Value.slice d b f).ownBlock=some e) (Keep.refl _ i) (p:=a) (.inl (.inl rfl)) (.slice B (b+1) H);have a1:Keep (fun e=>e=a∨(Value.slice d b f).ownBlock=some e) g W2:=Keep.of_below w.out;have a2:=a1.grown Q.out (fun am a0=>.inl (.inr a0));refine ⟨rfl,a2.trans' a4 (fun e _ l=>l),_,D.out.set 0 _,?_,?_⟩;have:=aA (w':=i.setCell a (.slice B (b+1) H)) T.out fun e ab _ L=>L.far (Bk.ne L D.out dC) _;simpa using this;rcases P.out with l | l;exact .inl l;exact .inr ⟨_,l,by have:=w.out.size;omega⟩
def OwnF (b:Nat->Prop) (c:Value):Prop:=∀a,c.ownBlock=some a->b a
def Gw (b:Nat->Prop) (c:Nat) (a:Nat):Prop:=b a∨c<=a
def Gw.keep {b:Nat->Prop} {c w1 d:World} (e:Keep b c w1) (f:Keep (Gw b c.heap.size) w1 d):Keep b c d:=e.trans' f fun g i a=>by
 rcases a with a | a;exact a;omega
def OwnF.mono {b G:Nat->Prop} {c:Value} (d:OwnF b c) (f:∀a,b a->G a):OwnF G c:=fun a e=>f a (d a e)
def OwnF.slice {b:Nat->Prop} {c g f d:Nat} (e:b c):OwnF b (.slice (some ⟨c,g,none⟩) f d):=fun i a=>by
 injection a with a;rw [<-a];exact e
def OwnF.at {b:Nat->Prop} {a f e c:Nat} (d:OwnF b (.slice (some ⟨a,f,none⟩) e c)):b a:=d a rfl
def ArenaE (i:World) (e:Nat->Prop) (j:Nat) (b:List Bool) (a:List Nat):Prop:=
 e j/\∃d g c f,Bk i j 228 #[.slice d b.length g,.slice c a.length f,.int .i64 268435456]/\i.ownsRow 0 4 1 (.slice d b.length g) b.length (b.map Value.bool)/\i.ownsRow 0 3 1 (.slice c a.length f) a.length (a.map sv)/\OwnF e (.slice d b.length g)/\OwnF e (.slice c a.length f)
def aB7 {k:World} {e a m b c:Nat} {f:TypeId} {d:Option Addr} {l:List Value} (g:k.ownsRow e f b (.slice d a c) a l) (t:m<=a) (x:0 < a):k.ownsRow e f b (.slice d m c) m (l.take (m*b)):=by
 rcases g.2 with ⟨i,j⟩|⟨o,v,n,i,j,p,w,q,r,s⟩;omega
 · injection i with h8 h9 h10;subst h8 h10;have u:m*b<=a*b:=Nat.mul_le_mul_right _ t;refine ⟨by rw [zAj,g.1];omega,.inr ⟨o,c,n,rfl,j,p,by omega,q,r,?_⟩⟩;rw [<-s,List.take_take,zCp u]
def aB8 {m:World} {f c l b:Nat} {g:TypeId} {e:Option Addr} {n:List Value} (i:m.ownsRow f g l (.slice e c b) c n):c<=b/\b<=maxLen:=by
 rcases i.2 with ⟨a,d⟩|⟨q,o,p,a,d,r,j,k,s,t⟩;injection a with _ _ a;subst a;subst d;exact ⟨zAs _,zAp _⟩;injection a with _ _ a;subst a;exact ⟨j,k⟩
def ArenaE.vis {f w':World} {b:Nat->Prop} {d:Nat} {e:List Bool} {c:List Nat} (l:ArenaE f b d e c) (a:Vis f w'):ArenaE w' b d e c:=by
 obtain ⟨m,i,k,g,j,n,o,p,q,r⟩:=l;exact ⟨m,i,k,g,j,a.bk n dC dC,a.own o dC dC,a.own p dC dC,q,r⟩
def ArenaE.mono {d:World} {e G:Nat->Prop} {g:Nat} {l:List Bool} {f:List Nat} (q:ArenaE d e g l f) (c:∀a,a < d.heap.size->e a->G a):ArenaE d G g l f:=by
 obtain ⟨r,n,p,m,o,i,j,k,s,t⟩:=q;exact ⟨c _ i.lt r,n,p,m,o,i,j,k,fun a b=>c a (j.lt a b).2 (s a b),fun a b=>c a (k.lt a b).2 (t a b)⟩
def ArenaE.keep {i w':World} {c G:Nat->Prop} {k:Nat} {q:List Bool} {j:List Nat} (v:ArenaE i c k q j) (g:Keep G i w') (f:∀a p d,p∈ [228,4,3]->Bk i a p d->c a->¬G a):ArenaE w' c k q j:=by
 obtain ⟨l,s,u,r,t,m,w,x,n,o⟩:=v;refine ⟨l,s,u,r,t,g.bk m (f _ _ _ dC m l),aA w fun a d e b=>g.bk b (f _ _ _ dC b (n a e)),aA x fun a d e b=>g.bk b (f _ _ _ dC b (o a e)),n,o⟩
def uW (g:Nat->Prop) (c b:Nat) (n:List Bool) (q:List Nat) (i:World) (aj:ArenaE i g c n (q++ [b])) (aq:b < n.length) (ht:n.length<=1000000) (a0:q.length < n.length):
 Calls prog 157 #[c] i fun o A=>o=.returned (.tuple #[(b:Int),.int .i64 0])/\ArenaE A g c (n.set b true) q/\Keep g i A:=by
 obtain ⟨X,ax,H,ay,k,s,v,u,O,N⟩:=aj;obtain ⟨z,L⟩:=eqx n.length;obtain ⟨a,t⟩:=eqx q.length;have a3:(q++ [b]).length=a+1:=by simp [t]
 rw [a3] at s u N;rw [L] at s v O ht aq a0;rw [t] at a0;obtain ⟨f,aG,I,_,ap⟩:=World.ownsRow.form v oM;injection I with I _ hcc;subst I hcc;obtain ⟨e,aC,J,_,a2⟩:=World.ownsRow.form u oM;injection J with J _ hcc2;subst J hcc2;have aR:=aB8 u;have P:=aB7 (m:=a) u oM oM;have a1:((q++ [b]).map sv).take (a*1)=q.map sv:=by
  have:(q.map sv).length=a:=by rw [zBc,t]
  rw [zAz,zBl,<-this,List.take_left]
 rw [a1] at P;have U:i.cell? ⟨e,a,none⟩=some (.int .i64 (b:Int)):=by refine (World.ownsRow.cellAt u a oM).trans ?_;rw [zAz,zAo (by simp [t]),zBc,t,Nat.sub_self];rfl
 obtain ⟨E,a8⟩:∃E,n[b]?=some E:=⟨_,zAa oM⟩;have W:i.cell? ⟨f,b,none⟩=some (.bool E):=by refine (World.ownsRow.cellAt v b oM).trans ?_;rw [zAf,a8];rfl
 have a7:c≠f:=fun o=>aQ v s dC (by rw [o];rfl);have aS:c≠e:=fun o=>aQ u s dC (by rw [o];rfl);have ao:∃C,Bk i f 4 C:=by
  rcases v.2 with ⟨l,_⟩|⟨aO,aD,C,l,_,ak,_⟩
  · cases l
  injection l with l _ _;injection l with l;injection l with l _;subst l;exact ⟨C,ak⟩
 obtain ⟨C,Z⟩:=ao;have aV:=s.lt;obtain ⟨x,af,ad,ac,ab,R,Q,S⟩:=hqq8 s v P O N Z L t;clear s v u P O N a1 a3 a8 L t Z;go_enter func157,ntmps157;go_wp2;refine wp_region_any kR ?_;refine cX [10,11,12,13,14,15,16,9] (Grow) (Vs [is c,is (.int .i64 ((z -(a+1):Nat):Int)),is c,is c,is (.pointer (some ⟨c,2,none⟩)),is (.int .i64 268435456),is (.bool false),is (.bool false)]) _ _ rfl kR bR (fun _ _=>Grow.trans) (fC tA0) ?_ ?_
 · refine bN ?_;refine pH 0 (.pointer (some c)) ?_;refine sC (fun _ B d _ _ _ w _ _ _ K=>?_) ?_
   · have aJ:_=_:=w 0 10 kR rfl;replace d:(Grow) i B:=gD d;go_simp;refine (jO c (some ⟨f,0,none⟩) H (some ⟨e,0,none⟩) k z (a+1) B (x.out.below d x.out.lt) oM oM).mono ?_;rintro o b2 ⟨rfl,M⟩;exact K _ _ M rfl
   refine pH 0 (.pointer (some c)) ?_;refine pV 2 12 ?_;refine pV 3 13 ?_;refine pL 4 14 (fun B d=>have d:(Grow) i B:=gD d;(((x.out.below d x.out.lt).cell 2).trans rfl:B.cell? ⟨c,2,none⟩=some (.int .i64 268435456))) ?_;refine sC (fun _ _ _ _ _ _ w _ _ _ K=>?_) ?_
   · have aK:_=_:=w 1 11 kR rfl;have aL:_=_:=w 5 15 kR rfl;have aX:(((z -(a+1):Nat):Int)==268435456)=false:=(by rw [zCa];omega);go_simp;exact K _ _ bR (by first | rfl | simp [is] |(simp [is];omega))
   refine pV 6 16 ?_;exact aP
 · intro ai j d w;replace d:(Grow) i j:=gD d;have ah:ai (.tmp 9)=.bool false:=w 7 9 rfl;simp only [zqq];rw [ah];clear w;have y:=x.out.below d x.out.lt;have D:=R.out.below d R.out.lt;have az:j.cell? c=some (.slice (some f) z H):=(y.cell 0).trans rfl;have aB:j.cell? ⟨c,1,none⟩=some (.slice (some e) (a+1) k):=(y.cell 1).trans rfl;have aM:=y.frozen 1;have aN:=D.frozen b;have aE:j.cell? ⟨e,a,none⟩=some (.int .i64 (b:Int)):=(d.cell (p:=⟨e,a,none⟩) a2).trans U;have aH:j.cell? ⟨f,b,none⟩=some (.bool E):=(d.cell (p:=⟨f,b,none⟩) ap).trans W;have aT:=y.lt;have aW:=D.lt;have aU:e < j.heap.size:=zAl a2 d.size;have a5:=aF af.out d;have a4:=aF ad.out d;obtain ⟨a9,G,aa,ag,ae⟩:=hqq5 d y D a5 a4;have aI:IntKind.i64.wrap (((a+1:Nat):Int) - 1)=(a:Int):=(by rw [IntKind.wrap_i64];omega);have aY:(a:Int) < ((a+1:Nat):Int):=oM;have aZ:(b:Int) < (z:Int):=oM;have b0:(a:Int)<=(k:Int):=oM;have b1:((a+1:Nat):Int) > 0:=oM;clear d y D a5 a4 U W;go_wp2_with fail;go_ret2;have ar:Keep g i j:=Keep.of_below a9.out;have am:=G.out.set 1 (.slice (some e) a k);have M:=am.far (p:=⟨f,b,none⟩) a7 (.bool true);have aw:=aA (w':=j.setCell ⟨c,1,none⟩ (.slice (some e) a k)) ag.out fun T V _ r=>r.far (Bk.ne r G.out dC) _;have a6:=(World.ownsRow.stored aw b (.bool true)).1;have au:=aA (w':=j.setCell ⟨c,1,none⟩ (.slice (some e) a k)) ae.out fun T V _ r=>r.far (Bk.ne r G.out dC) _;have an:=aa.out.far (p:=⟨c,1,none⟩) (fun o=>a7 o.symm) (.slice (some e) a k);have av:=aA (w':=(j.setCell ⟨c,1,none⟩ (.slice (some e) a k)).setCell ⟨f,b,none⟩ (.bool true)) au fun T V _ r=>r.far (Bk.ne r an dC) _;have Y:g f:=OwnF.at ac.out;have al:g e:=OwnF.at ab.out;rw [show ((n.map Value.bool).set b (.bool true))=(n.set b true).map Value.bool by rw [List.map_set]] at a6;refine ⟨rfl,⟨X,some ⟨f,0,none⟩,H,some ⟨e,0,none⟩,k,?_,?_,?_,?_,?_⟩,?_⟩;rw [zAt,Q.out,S.out];exact M;rw [zAt,Q.out];exact a6;rw [S.out];exact av;rw [zAt];exact OwnF.slice Y;exact OwnF.slice al;exact Keep.setCell (F:=g) (Keep.setCell (F:=g) ar (p:=⟨c,1,none⟩) (.inl X) _) (p:=⟨f,b,none⟩) (.inl Y) _
end Go.Proofs.YtnmapianpjamnaaGreatDoor
