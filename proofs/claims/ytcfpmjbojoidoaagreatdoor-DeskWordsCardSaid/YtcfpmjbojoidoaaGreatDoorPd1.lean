/- Lemmas of the walk. Conditions: each its own. -/
import Derived.Test.YtcfpmjbojoidoaaGreatDoorPd0
import Derived.Test.YtcfpmjbojoidoaaGreatDoorProg
set_option linter.all false
set_option maxRecDepth 100000
set_option maxHeartbeats 4000000
namespace Go.Proofs.YtcfpmjbojoidoaaGreatDoor
open Tryz
section
def jW:List Bool->Nat
 | []=>0
 | b::l=>(if b then 1 else 0)+2*jW l
def tQ (a:List Bool):jW a < 2 ^ a.length:=by
 induction a with
 | nil=>simp [jW]
 | cons b a c=>
   simp only [jW,zCf,Nat.pow_succ];cases b <;> simp <;> omega
def jB (b:List Bool) (a:Nat):(jW b).testBit a=b.getD a false:=by
 induction b generalizing a with
 | nil=>simp [jW]
 | cons c b e=>
   cases a with
   | zero=>
     simp only [jW,List.getD_cons_zero,Nat.testBit_zero];cases c <;> simp <;> omega
   | succ a=>
     have d:((if c then 1 else 0)+2*jW b)/ 2=jW b:=(by cases c <;> simp <;> omega);simp only [jW,List.getD_cons_succ,Nat.testBit_succ,d];exact e a
def aBU (a b:List Bool):jW (a++b)=jW a+2 ^ a.length*jW b:=by
 induction a with
 | nil=>simp [jW]
 | cons d a c=>
   simp only [List.cons_append,jW,c,zCf,Nat.pow_succ];cases d <;> simp <;> rw [Nat.mul_add,<-Nat.mul_assoc,Nat.mul_comm 2 (2 ^ a.length)] <;> omega
def nG (b:List Bool) (a:Nat):aY (jW b) a=(b.take a).count true:=by
 induction a with
 | zero=>simp [mX]
 | succ a e=>
   rw [dA,e,jB,zAv,zCc];cases c:b[a]? with
   | none=>simp [zAb,c]
   | some d=>cases d <;> simp [zAb,c]
def zB (b:List Bool) (a:Bool):jW (b++ [a])=jW b+if a then 2 ^ b.length else 0:=by
 rw [aBU];cases a <;> simp [jW]
def aGT (a b:Nat) (c:a < 2 ^ b):a||| 2 ^ b=a+2 ^ b:=by
 have:=Nat.two_pow_add_eq_or_of_lt c 1;rw [zBl] at this;rw [Nat.or_comm,<-this,zCs]
def w0 (a:List Bool):Nat:=jW (a.take 64)
def w1 (a:List Bool):Nat:=jW (a.drop 64)
def lS (a:List Bool):w0 a < 18446744073709551616:=by
 have c:=tQ (a.take 64);have b:(a.take 64).length<=64:=by rw [zAj];omega
 have d:=zBp (n:=2) dC b;unfold w0;omega
def lP (a:List Bool) (e:a.length<=128):w1 a < 18446744073709551616:=by
 have c:=tQ (a.drop 64);have b:(a.drop 64).length<=64:=by rw [zAw];omega
 have d:=zBp (n:=2) dC b;unfold w1;omega
def aIN (a:List Bool) (b:a.length<=128):aY (w0 a) 64+aY (w1 a) 64=a.count true:=by
 unfold w0 w1;rw [nG,nG,List.take_take,Nat.min_self,zAg (l:=a.drop 64) (by rw [zAw];omega),<-zCc,zAu]
def aIM (b:List Bool) (a:Nat) (g:b.length<=128) (f:a<=b.length):aY (w0 b) (min a 64)+aY (w1 b) (min (a - 64) 64)=(b.take a).count true:=by
 unfold w0 w1;rw [nG,nG,List.take_take];rcases zBe a 64 with e | e
 · have c:min (min a 64) 64=a:=oM;have d:min (a - 64) 64=0:=oM;rw [c,d,List.take_zero,List.count_nil,zBq]
 have c:min (min a 64) 64=64:=oM;have d:min (a - 64) 64=a - 64:=oM;rw [c,d,<-zCc];congr 1;rw [<-zAu 64 (b.take a),List.take_take,List.drop_take];congr 2;omega
def yK (a:List Bool) (b:Bool) (c:a.length < 64):w0 (a++ [b])=w0 a+(if b then 2 ^ a.length else 0)/\w1 (a++ [b])=w1 a:=by
 unfold w0 w1;rw [zAg (by simp;omega),zAg oM,List.drop_of_length_le (by simp;omega),List.drop_of_length_le oM];exact ⟨zB a b,rfl⟩
def yL (a:List Bool) (b:Bool) (c:64<=a.length):w0 (a++ [b])=w0 a/\w1 (a++ [b])=w1 a+(if b then 2 ^(a.length - 64) else 0):=by
 unfold w0 w1;rw [List.take_append_of_le_length c,List.drop_append_of_le_length c,zB,zAw];exact ⟨rfl,rfl⟩
def aF4 (a:List Bool) (b:a.length < 64):w0 a < 2 ^ a.length:=by
 unfold w0;rw [zAg oM];exact tQ a
def aF2 (a:List Bool):w1 a < 2 ^(a.length - 64):=by
 unfold w1;have:=tQ (a.drop 64);rwa [zAw] at this
end
section
open Go.RowKit
def gK (a:List Bool):Array Value:=#[.int .i64 (a.length:Int),.int .u64 ((w0 a:Nat):Int),.int .u64 ((w1 a:Nat):Int)]
def aFb (a b:Nat) (e:a < 18446744073709551616) (f:b < 18446744073709551616):bits .or .u64 (a:Int) (b:Int)=((a||| b:Nat):Int):=
 (bits_nat .u64 64 dC (fun g c d=>by rw [IntKind.wrap_u64];omega) a b oM oM).2
def lN (a3:Option Addr) (k ad a4:Nat) (e:List Bool) (n:World) (u:Rd n a4 1 a3 k (e.map Value.bool)) (aq:a4<=n.heap.size) (aG:k<=128):
 Calls prog 271 #[.slice a3 k ad] n fun J aa=>J=.returned (.tuple #[n.heap.size,.int .i64 0])/\Bk aa n.heap.size 292 (gK e)/\Below n.heap.size n aa:=by
 have a7:e.length=k:=by simpa using u.1
 obtain ⟨S,ac⟩:=hqq2 a7 (u.mono aq);have aD:¬((k:Int) > 128):=oM;clear u a7;obtain ⟨c,X⟩:=eqx n.heap.size;go_enter func271,ntmps271;go_wp2;have ar:=(Below.refl n.heap.size n).alloc nL (.cells #[(k:Int),.int .u64 0,.int .u64 0] 292);have a6:=Bk.new n 292 #[(k:Int),.int .u64 0,.int .u64 0];rw [X] at a6
 try rw [X]
 go_loopw [16] (fun a0 wr=>∃b:Nat,b<=k/\a0=.int .i64 b/\Bk wr c 292 #[(k:Int),.int .u64 ((w0 (e.take b):Nat):Int),.int .u64 ((w1 (e.take b):Nat):Int)]/\Below n.heap.size n wr) (fun a0 _=>k -(intOf a0).toNat)
 case atStart=>exact ⟨0,zAp _,rfl,a6,ar⟩
 case round=>
  obtain ⟨b,aF,rfl,x,w⟩:=hrel;have a9:=w.size;by_cases a8:b < k
  · have av:b < e.length:=(by rw [S.out];exact a8);obtain ⟨Q,P⟩:∃Q,e[b]?=some Q:=⟨e[b],zAa av⟩;obtain ⟨o,aI,aJ,rfl,aB,Z,aC⟩:=(ac.out.below w).get a8;rw [zAf,P] at Z;simp at Z;subst Z;have y:e.take (b+1)=e.take b++ [Q]:=(by rw [zAv,P];rfl);have D:(e.take b).length=b:=(by rw [zAj];omega);cases Q with
    | false=>
      have s:w0 (e.take (b+1))=w0 (e.take b)/\w1 (e.take (b+1))=w1 (e.take b):=(by rw [y];rcases zBe b 64 with l | l;have:=yK (e.take b) false oM;simpa using this;have:=yL (e.take b) false oM;simpa using this);obtain ⟨a5,ab⟩:=hqq2 s x;clear s y D P x;go_wp2;go_roundw
      case rel=>exact ⟨b+1,by omega,by go_num,by rw [a5.out.1,a5.out.2];exact ab.out,w⟩
      case measure=>simp [intOf];omega
    | true=>
      rcases zBe b 64 with ap | ap
      · obtain ⟨g,u⟩:∃g:Nat,g=b:=⟨_,rfl⟩;have ax:IntKind.i64.wrap ((b:Int)/ 64)=0:=(by rw [IntKind.wrap_i64];omega);have aw:(b:Int).tmod 64=(g:Int):=(by rw [Int.tmod_eq_emod_of_nonneg oM];omega);have ay:IntKind.u64.wrap (g:Int)=(g:Int):=(by rw [IntKind.wrap_u64];omega);have Y:g < 64:=oM;obtain ⟨j,m⟩:∃j:Nat,j=2 ^ g:=⟨_,rfl⟩;have U:j < 18446744073709551616:=(by have:=Nat.pow_lt_pow_right (a:=2) dC Y;omega);obtain ⟨i,v⟩:∃i:Nat,i=w0 (e.take b):=⟨_,rfl⟩;obtain ⟨r,C⟩:∃r:Nat,r=w1 (e.take b):=⟨_,rfl⟩;obtain ⟨q,B⟩:∃q:Nat,q=i+j:=⟨_,rfl⟩;have L:i < j:=(by have:=aF4 (e.take b) oM;rw [D] at this;rw [v,m,u];exact this);have s:=yK (e.take b) true oM;rw [<-y,<-v,<-C,D] at s;have N:w0 (e.take (b+1))=q/\w1 (e.take (b+1))=r:=⟨by rw [s.1,B,m,u];rfl,s.2⟩;have O:bits .or .u64 (i:Int) (j:Int)=(q:Int):=(by rw [aFb i j oM U,m,aGT i g (by rw [<-m];exact L),B,m]);have R:=lhd O;have K:IntKind.u64.wrap ((2:Int)^ g)=(j:Int):=(by rw [m,IntKind.wrap_u64];have J:((2:Int)^ g)=((2 ^ g:Nat):Int):=(by push_cast;rfl);rw [J,<-m];omega);obtain ⟨H,I⟩:=hqq2 K N;rw [<-v,<-C] at x;clear O K s N v C B m L y D P u;go_wp2;refine wp_region_any kR ?_;refine bX [22,23,24,25,26,27,28,29,30,31,32,33,34,35,36] (fun o=>o=c) 15 [6,15] (fun w1=>Bk w1 c 292 #[(k:Int),.int .u64 (i:Int),.int .u64 (r:Int)]) (fun _ w1=>Bk w1 c 292 #[(k:Int),.int .u64 (q:Int),.int .u64 (r:Int)]) [is (.pointer (some ⟨c,0,none⟩)),is (b:Int),is (.int .i64 0),is (.pointer (some ⟨c,0,none⟩)),is (.pointer (some ⟨c,1,none⟩)),is (.pointer (some ⟨c,1,none⟩)),is (.int .u64 (i:Int)),is (b:Int),is (g:Int),is (.int .u64 (g:Int)),is (.int .u64 (j:Int)),is (.int .u64 (q:Int)),is (.pointer (some ⟨c,0,none⟩)),is (.pointer (some ⟨c,1,none⟩)),is (.pointer (some ⟨c,1,none⟩)),dF] _ _ rfl kR kR (x) (fun w1 aA l _ W=>Bk.below l W l.lt) (fun _ _ _ l b=>Bk.below l b l.lt) tA1 ?_ ?_
        · refine aR ?_;refine pH3 4 (.pointer (some ⟨c,0,none⟩)) ?_;refine pH3 5 (.int .i64 (b:Int)) ?_;refine sC3 (fun _ _ _ _ _ _ _ d _ _ _ f=>?_) ?_
          · have ae:_=_:=d 1 23 kR rfl;go_simp;exact f _ _ (aL bR) (dT (by first | rfl | omega))
          refine pV3 0 22 ?_;refine pV3 3 25 ?_;refine pW3 4 26 2 24 ?_;refine sC3 (fun _ E _ A _ _ _ d _ _ _ f=>?_) ?_
          · have t:=A rfl;have af:_=_:=d 5 27 kR rfl;have T:E.cell? ⟨c,1,none⟩=some (.int .u64 (i:Int)):=(t.cell 1).trans rfl;go_simp;exact kq f rfl
          refine pH3 5 (.int .i64 (b:Int)) ?_;refine sC3 (fun _ _ _ _ _ _ _ d _ _ _ f=>?_) ?_
          · have ah:_=_:=d 7 29 kR rfl;go_simp;exact f _ _ (aL bR) (dT (by first | rfl | omega))
          refine sC3 (fun _ _ _ _ _ _ _ d _ _ _ f=>?_) ?_
          · have ai:_=_:=d 8 30 kR rfl;go_simp;exact f _ _ (aL bR) (jA (by first | rfl | omega))
          refine sC3 (fun _ _ _ _ _ _ _ d _ _ _ f=>?_) ?_
          · have aj:_=_:=d 9 31 kR rfl;go_simp;exact f _ _ (aL bR) (jA (by first | exact H.out | simpa using H.out))
          refine sC3 (fun _ _ _ _ _ _ _ d _ _ _ f=>?_) ?_
          · have ag:_=_:=d 6 28 kR rfl;have ak:_=_:=d 10 32 kR rfl;go_simp;exact f _ _ (aL bR) (jA R.out)
          refine pV3 0 22 ?_;refine pV3 12 34 ?_;refine pW3 13 35 2 24 ?_;refine sC3 (fun _ E _ A _ _ _ d _ _ _ f=>?_) ?_
          · have t:=A rfl;have am:_=_:=d 14 36 kR rfl;have al:_=_:=d 11 33 kR rfl;have T:E.cell? ⟨c,1,none⟩=some (.int .u64 (i:Int)):=(t.cell 1).trans rfl;have ao:=t.frozen 1;go_simp;exact f (.bool true) _ (bC (Keep.setCell (F:=fun o=>o=c) (Keep.refl _ _) (p:=⟨c,1,none⟩) (.inl rfl) _)) (t.set 1 _)
          exact aH
        · intro an G z d M;replace z:Keep (fun o=>o=c) wr G:=kD z;obtain ⟨az,a1⟩:∃a2,(fun _ w1=>Bk w1 c 292 #[(k:Int),.int .u64 (q:Int),.int .u64 (r:Int)]) a2 G:=M 15 dC;simp only [zqq];clear d M;have V:Below n.heap.size n G:=w.trans (z.to_below a9 (fun o w l=>absurd (show o=c from l) oM));go_wp2;go_roundw
          case rel=>exact ⟨b+1,by omega,by go_num,by rw [I.out.1,I.out.2];exact a1,V⟩
          case measure=>simp [intOf];omega
      · obtain ⟨g,u⟩:∃g:Nat,g=b - 64:=⟨_,rfl⟩;have ax:IntKind.i64.wrap ((b:Int)/ 64)=1:=(by rw [IntKind.wrap_i64];omega);have aw:(b:Int).tmod 64=(g:Int):=(by rw [Int.tmod_eq_emod_of_nonneg oM];omega);have ay:IntKind.u64.wrap (g:Int)=(g:Int):=(by rw [IntKind.wrap_u64];omega);have Y:g < 64:=oM;obtain ⟨j,m⟩:∃j:Nat,j=2 ^ g:=⟨_,rfl⟩;have U:j < 18446744073709551616:=(by have:=Nat.pow_lt_pow_right (a:=2) dC Y;omega);obtain ⟨i,v⟩:∃i:Nat,i=w1 (e.take b):=⟨_,rfl⟩;obtain ⟨r,C⟩:∃r:Nat,r=w0 (e.take b):=⟨_,rfl⟩;obtain ⟨q,B⟩:∃q:Nat,q=i+j:=⟨_,rfl⟩;have L:i < j:=(by have:=aF2 (e.take b);rw [D] at this;rw [v,m,u];exact this);have s:=yL (e.take b) true oM;rw [<-y,<-v,<-C,D] at s;have N:w1 (e.take (b+1))=q/\w0 (e.take (b+1))=r:=⟨by rw [s.2,B,m,u];rfl,s.1⟩;have O:bits .or .u64 (i:Int) (j:Int)=(q:Int):=(by rw [aFb i j oM U,m,aGT i g (by rw [<-m];exact L),B,m]);have R:=lhd O;have K:IntKind.u64.wrap ((2:Int)^ g)=(j:Int):=(by rw [m,IntKind.wrap_u64];have J:((2:Int)^ g)=((2 ^ g:Nat):Int):=(by push_cast;rfl);rw [J,<-m];omega);obtain ⟨H,I⟩:=hqq2 K N;rw [<-v,<-C] at x;clear O K s N v C B m L y D P u;go_wp2;refine wp_region_any kR ?_;refine bX [22,23,24,25,26,27,28,29,30,31,32,33,34,35,36] (fun o=>o=c) 15 [6,15] (fun w1=>Bk w1 c 292 #[(k:Int),.int .u64 (r:Int),.int .u64 (i:Int)]) (fun _ w1=>Bk w1 c 292 #[(k:Int),.int .u64 (r:Int),.int .u64 (q:Int)]) [is (.pointer (some ⟨c,0,none⟩)),is (b:Int),is (.int .i64 1),is (.pointer (some ⟨c,0,none⟩)),is (.pointer (some ⟨c,1,none⟩)),is (.pointer (some ⟨c,2,none⟩)),is (.int .u64 (i:Int)),is (b:Int),is (g:Int),is (.int .u64 (g:Int)),is (.int .u64 (j:Int)),is (.int .u64 (q:Int)),is (.pointer (some ⟨c,0,none⟩)),is (.pointer (some ⟨c,1,none⟩)),is (.pointer (some ⟨c,2,none⟩)),dF] _ _ rfl kR kR (x) (fun w1 aA l _ W=>Bk.below l W l.lt) (fun _ _ _ l b=>Bk.below l b l.lt) tA1 ?_ ?_
        · refine aR ?_;refine pH3 4 (.pointer (some ⟨c,0,none⟩)) ?_;refine pH3 5 (.int .i64 (b:Int)) ?_;refine sC3 (fun _ _ _ _ _ _ _ d _ _ _ f=>?_) ?_
          · have ae:_=_:=d 1 23 kR rfl;go_simp;exact f _ _ (aL bR) (dT (by first | rfl | omega))
          refine pV3 0 22 ?_;refine pV3 3 25 ?_;refine pW3 4 26 2 24 ?_;refine sC3 (fun _ E _ A _ _ _ d _ _ _ f=>?_) ?_
          · have t:=A rfl;have af:_=_:=d 5 27 kR rfl;have T:E.cell? ⟨c,2,none⟩=some (.int .u64 (i:Int)):=(t.cell 2).trans rfl;go_simp;exact kq f rfl
          refine pH3 5 (.int .i64 (b:Int)) ?_;refine sC3 (fun _ _ _ _ _ _ _ d _ _ _ f=>?_) ?_
          · have ah:_=_:=d 7 29 kR rfl;go_simp;exact f _ _ (aL bR) (dT (by first | rfl | omega))
          refine sC3 (fun _ _ _ _ _ _ _ d _ _ _ f=>?_) ?_
          · have ai:_=_:=d 8 30 kR rfl;go_simp;exact f _ _ (aL bR) (jA (by first | rfl | omega))
          refine sC3 (fun _ _ _ _ _ _ _ d _ _ _ f=>?_) ?_
          · have aj:_=_:=d 9 31 kR rfl;go_simp;exact f _ _ (aL bR) (jA (by first | exact H.out | simpa using H.out))
          refine sC3 (fun _ _ _ _ _ _ _ d _ _ _ f=>?_) ?_
          · have ag:_=_:=d 6 28 kR rfl;have ak:_=_:=d 10 32 kR rfl;go_simp;exact f _ _ (aL bR) (jA R.out)
          refine pV3 0 22 ?_;refine pV3 12 34 ?_;refine pW3 13 35 2 24 ?_;refine sC3 (fun _ E _ A _ _ _ d _ _ _ f=>?_) ?_
          · have t:=A rfl;have am:_=_:=d 14 36 kR rfl;have al:_=_:=d 11 33 kR rfl;have T:E.cell? ⟨c,2,none⟩=some (.int .u64 (i:Int)):=(t.cell 2).trans rfl;have ao:=t.frozen 2;go_simp;exact f (.bool true) _ (bC (Keep.setCell (F:=fun o=>o=c) (Keep.refl _ _) (p:=⟨c,2,none⟩) (.inl rfl) _)) (t.set 2 _)
          exact aH
        · intro an G z d M;replace z:Keep (fun o=>o=c) wr G:=kD z;obtain ⟨az,a1⟩:∃a2,(fun _ w1=>Bk w1 c 292 #[(k:Int),.int .u64 (r:Int),.int .u64 (q:Int)]) a2 G:=M 15 dC;simp only [zqq];clear d M;have V:Below n.heap.size n G:=w.trans (z.to_below a9 (fun o w l=>absurd (show o=c from l) oM));go_wp2;go_roundw
          case rel=>exact ⟨b+1,by omega,by go_num,by rw [I.out.1,I.out.2];exact a1,V⟩
          case measure=>simp [intOf];omega
  · have aE:k<=b:=oM;have y:e.take b=e:=zAg (by have:=S.out;omega);rw [y] at x;have au:Bk wr c 292 (gK e):=(by unfold gK;rw [S.out];exact x);clear y x;go_wp2;go_ret2;rw [X] at w⊢;exact ⟨rfl,au,w⟩
def rC (b:Nat) (c:List Bool) (a:World) (e:Bk a b 292 (gK c)):
 Calls prog 289 #[b] a fun d f=>d=.returned (.int .i64 (c.length:Int))/\a=f:=by
 have g:a.cell? b=some (.int .i64 (c.length:Int)):=(e.cell 0).trans rfl;go_enter func289,ntmps289;go_wp2;go_ret;exact ⟨rfl,rfl⟩
def aJg {d:World} {a:Nat} {c:List Bool} (e:Bk d a 292 (gK c)):Rd d d.heap.size 1 (some ⟨a,1,none⟩) 2 ([w0 c,w1 c].map uvn):=by
 refine ⟨rfl,fun _=>⟨a,1,rfl,e.lt,fun f g b=>?_⟩⟩;rw [e.cell];rcases f with _ | _ | f;exact b;exact b
 · simp at b
def yH (d:Nat) (a:List Bool) (b:World) (i:Bk b d 292 (gK a)) (e:a.length<=128):
 Calls prog 295 #[d] b fun c g=>c=.returned (.int .i64 ((a.count true:Nat):Int))/\b=g:=by
 have j:(([w0 a,w1 a].map fun k=>aY k 64).sum)=a.count true:=by rw [<-aIN a e];simp
 go_enter func295,ntmps295;go_wp2_with fail;refine (gO _ 2 2 _ [w0 a,w1 a] _ (aJg i) (by intro l f;simp at f;rcases f with rfl | rfl;exact lS a;exact lP a e) oM).mono ?_;rintro c g ⟨rfl,rfl⟩;rw [j];go_wp2;go_ret;exact ⟨rfl,rfl⟩
def ix0 (a c:Int) (b:World):(Instr.index 290 (.agg #[.int .u64 a,.int .u64 c]) (.int .i64 0)).run prog b=.ok (.int .u64 a) b:=by kernel_rfl
def ix1 (c a:Int) (b:World):(Instr.index 290 (.agg #[.int .u64 c,.int .u64 a]) (.int .i64 1)).run prog b=.ok (.int .u64 a) b:=by kernel_rfl
def yG (i:Nat) (b:List Bool) (a:Nat) (d:World) (c:Bk d i 292 (gK b)) (v:b.length<=128) (u:a<=b.length):
 Calls prog 276 #[i,(a:Int)] d fun m r=>m=.returned (.int .i64 (((b.take a).count true:Nat):Int))/\Below d.heap.size d r:=by
 have p:=aIM b a v u;obtain ⟨j,w⟩:=eqx b.length;obtain ⟨e,k⟩:=eqx (w0 b);obtain ⟨g,l⟩:=eqx (w1 b);have D:e < 18446744073709551616:=by rw [<-k];exact lS b
 have b1:g < 18446744073709551616:=by rw [<-l];exact lP b v
 have y:uN e (a:Int)=aY e (min a 64):=by unfold uN;rw [zBr]
 have z:uN g ((a:Int) - 64)=aY g (min (a - 64) 64):=by unfold uN;congr 2;omega
 rw [k,l] at p;have N:=mY e (min a 64);have O:=mY g (min (a - 64) 64);have E:d.cell? i=some (.int .i64 (j:Int)):=by rw [<-w];exact (c.cell 0).trans rfl
 have s:d.cell? ⟨i,1,none⟩=some (.int .u64 (e:Int)):=by rw [<-k];exact (c.cell 1).trans rfl
 have t:d.cell? ⟨i,2,none⟩=some (.int .u64 (g:Int)):=by rw [<-l];exact (c.cell 2).trans rfl
 have F:=c.lt;have K:a<=j:=oM;have L:j<=128:=oM;have P:max (a:Int) 0=(a:Int):=oM;have Q:min (a:Int) (j:Int)=(a:Int):=oM;obtain ⟨A,B⟩:=hqq2 p y;have k0:=ix0;have M:=ix1;have C:=lhd z;clear c p k l w u y z;go_enter func276,ntmps276;go_wp2_with fail;go_loopw [5,14] (fun H q wr=>∃f:Nat,f<=2/\q=.int .i64 f/\H=.int .i64 (((if f=0 then 0 else if f=1 then aY e (min a 64) else (b.take a).count true):Nat):Int)/\Below d.heap.size d wr) (fun _ q _=>2 -(intOf q).toNat)
 case atStart=>exact ⟨0,by omega,rfl,rfl,Below.refl _ _⟩
 case round=>
  obtain ⟨f,J,rfl,rfl,c⟩:=hrel;have x:=c.size;have I:wr.cell? i=some (.int .i64 (j:Int)):=(c.cell F).trans E;rcases f with _ | _ | _ | f
  · clear s t;simp only [if_true];go_wp2_with fail;refine (rE e (a:Int) D oM _).mono ?_;rintro m r ⟨rfl,o⟩;rw [B.out];have n:=c.trans (o.mono x);go_wp2_with fail;go_roundw
    case rel=>exact ⟨1,by omega,by go_num,by simp,n⟩
    case measure=>simp [intOf]
  · clear s t;simp only [zBi,Nat.one_ne_zero,if_false,if_true];go_wp2_with fail;refine (rE g ((a:Int) - 64) b1 oM _).mono ?_;rintro m r ⟨rfl,o⟩;rw [C.out];have n:=c.trans (o.mono x);have G:(((aY e (min a 64):Nat):Int)+((aY g (min (a - 64) 64):Nat):Int))=(((b.take a).count true:Nat):Int):=(by rw [<-A.out];push_cast;rfl);go_wp2_with fail;go_roundw
    case rel=>exact ⟨2,by omega,by go_num,by first | rfl |(simp;done)| exact dT (by simpa using G),n⟩
    case measure=>simp [intOf]
  · simp only [show ¬(0+1+1=0) by omega,show ¬(0+1+1=1) by omega,if_false];go_wp2;go_ret;exact ⟨rfl,c⟩
  omega
def sB:(prog.info? 4).map (fun a=>(a.zero,a.size,a.bytes))=some (some (.bool false),1,1):=by kernel_rfl
def rF (a:World):
 Calls prog 53 #[.int .i64 268435456] a fun c b=>c=.returned (.pointer (some a.heap.size))/\Bk b a.heap.size 150 #[.slice none 0 0,.slice none 0 0,.int .i64 268435456]/\Below a.heap.size a b:=by
 go_enter func53,ntmps53;go_wp2;go_ret;exact ⟨rfl,Bk.new _ _ _,bR.alloc nL _⟩
def aD4 (b:Nat) (a:World) (c:Bk a b 150 #[.slice none 0 0,.slice none 0 0,.int .i64 268435456]):
 Calls prog 106 #[b] a fun d e=>d=.returned (.int .i64 0)/\Below a.heap.size a e:=by
 have f:a.cell? b=some (.slice none 0 0):=(c.cell 0).trans rfl;have g:a.cell? ⟨b,1,none⟩=some (.slice none 0 0):=(c.cell 1).trans rfl;go_enter func106,ntmps106;go_wp2;go_quiet (fail);go_wp2;go_ret;exact ⟨rfl,below_drewN bR _⟩
def aGI {c:World} {a:Nat} {g:TypeId} {f:Value} (d:Bk c a g #[f]):Rd c c.heap.size 1 (some ⟨a,0,none⟩) 1 [f]:=by
 refine ⟨rfl,fun _=>⟨a,0,rfl,d.lt,fun b i e=>?_⟩⟩;rw [zBi,d.cell b];rcases b with _ | b;exact e
 · simp at e
def aDN (a:Nat) (c:World) (i:Bk c a 150 #[.slice none 0 0,.slice none 0 0,.int .i64 268435456]):
 Calls prog 61 #[a] c fun y s=>y=.returned (.tuple #[.int .i64 0,.int .i64 0])/\Keep (fun g=>g=a) c s/\∃t v,Bk s a 150 #[.slice t 1 v,.slice none 0 0,.int .i64 268435456]/\Made s c.heap.size 4 1 t 1 v [.bool true]:=by
 obtain ⟨Q,J,N,O,P⟩:=info_parts sB;have I:=i.lt;obtain ⟨e,T⟩:=hqq2 i (Below.refl c.heap.size c);clear i;go_enter func61,ntmps61;go_wp2;refine wp_region_any kR ?_;refine aX [10,11,12,13,14,15,16,9] Grow (Vs [is a,is (.int .i64 0),is a,is a,is (.pointer (some ⟨a,2,none⟩)),is (.int .i64 268435456),is (.bool false),is (.bool false)]) _ _ rfl kR bR (fun _ _=>Grow.trans) (aHX (by repeat' (first | exact aIQ _ | exact aHW _ _ _ |(refine zAe.2 ⟨?_,?_⟩)|(intro S M;cases M)))) ?_ ?_
 · refine aR ?_;refine pH 0 (.pointer (some a)) ?_;refine sC (fun _ d b _ _ _ m _ _ _ G=>?_) ?_
   · have X:_=_:=m 0 10 kR rfl;replace b:Grow c d:=gD b;go_simp;refine (aD4 a d (e.out.below b e.out.lt)).mono ?_;rintro y a1 ⟨rfl,H⟩;exact G _ _ H rfl
   refine pH 0 (.pointer (some a)) ?_;refine pV 2 12 ?_;refine pV 3 13 ?_;refine pL 4 14 (fun d b=>have b:Grow c d:=gD b;(((e.out.below b e.out.lt).cell 2).trans rfl:d.cell? ⟨a,2,none⟩=some (.int .i64 268435456))) ?_;refine pW 1 11 5 15 ?_;refine pV 6 16 ?_;exact aH
 · intro E k b m;replace b:Grow c k:=gD b;have D:E (.tmp 9)=.bool false:=m 7 9 rfl;simp only [zqq];rw [D];clear m;have f:=lhd (e.out.below b e.out.lt);have r:=Below.size b;have n:=lhd b;have w:k.cell? ⟨a,1,none⟩=some (.slice none 0 0):=(f.out.cell 1).trans rfl;clear b;have o:k.cell? a=some (.slice none 0 0):=(f.out.cell 0).trans rfl;have z:=f.out.frozen 0;have l:a < k.heap.size:=oM;revert f r o w z n l;generalize k=W2;intro f r n w o z l;have U:=(World.cell?_alloc_lt W2 (Obj.cells #[.bool true] 4) ⟨a,0,none⟩ l).trans o;go_wp2_with (at_builtin;refine bM _ rfl (.tmp 53) (.tmp 54) _ rfl c.heap.size 4 Q (.bool false) 1 1 underlying148 J N O P rfl dC (.slice none 0 0) 0 [] rfl (World.ownsRow_nil _ _ _ _) rfl rfl (by simp [Value.oneCell']) (by unfold maxLen;omega) oM r ?_;intro a0 d B j Z Y;rw [zBi,List.nil_append] at B;obtain ⟨u,x,rfl,L⟩:=aU B;have A:Below W2.heap.size W2 d:=⟨j.os,j.tape,j.output,j.size,fun R K=>j.block R K (by simp [Value.ownBlock])⟩;have q:=f.out.below A l;have V:d.cell? a=some (.slice none 0 0):=(q.cell 0).trans rfl;have W:=q.frozen 0);go_ret2;have C:=Keep.setCell (F:=fun g=>g=a) (Keep.refl (fun g=>g=a) d) (p:=a) (.inl rfl) (.slice u 1 x);exact ⟨rfl,((Keep.of_below n.out).trans (Keep.of_below A)).trans C,u,x,q.set 0 _,(L.mono oM).keepF C (fun g i=>by subst i;exact I)⟩
def yZ (b c:Int) (a:Nat):List Value:= [.int .i64 (-1),.int .i64 (-1),.int .i64 0,.int .i64 b,.int .i64 c,.int .i64 0,.int .i64 0,.pointer (some a)]
def RowS (a d b c:Nat) (f g:Int) (e:World):Prop:=e.ownsRow a 271 8 (.slice (some d) 1 b) 1 (yZ f g c)
def RowS.grow {b e c d:Nat} {g i:Int} {a f:World} (j:RowS b e c d g i a) (k:Below a.heap.size a f):RowS b e c d g i f:=aQ j k
def RowS.at3 {c a d e:Nat} {j g:Int} {f:World} (i:RowS c a d e j g f) (b:Int):RowS c a d e b g (f.setCell ⟨a,3,none⟩ (.int .i64 b)):=(World.ownsRow.stored i 3 (.int .i64 b)).1
def RowS.at4 {c a d e:Nat} {g j:Int} {f:World} (i:RowS c a d e g j f) (b:Int):RowS c a d e g b (f.setCell ⟨a,4,none⟩ (.int .i64 b)):=(World.ownsRow.stored i 4 (.int .i64 b)).1
def RowS.lt {b a d e:Nat} {g i:Int} {c:World} (f:RowS b a d e g i c):b<=a/\a < c.heap.size:=World.ownsRow.lt f a rfl
def RowS.bk_ne {d b e i a:Nat} {m n:Int} {c:World} {t:TypeId} {f:Array Value} (j:RowS d b e i m n c) (k:Bk c a t f) (l:271≠t):a≠b:=fun g=>aT j k l (by rw [g];rfl)
def aJp (c:World) (b a e f:Nat) (w1:World):Prop:=Keep (fun d=>d=a) c w1/\∃g i,RowS b a e f g i w1
def aJo (c a d e:Nat) (k l:Int) (f:Nat) (w1 b:World):Prop:=
 (f=14->Keep (fun j=>j=a) w1 b/\∀g i,RowS c a d e g i w1->RowS c a d e k i b)/\(f=17->Keep (fun j=>j=a) w1 b/\∀g i,RowS c a d e g i w1->RowS c a d e g l b)/\(f≠14->f≠17->Grow w1 b)
def cJ {d j g i:Nat} {e f:Int} {b:Nat} {w1 c:World} (l:b≠14) (m:b≠17) (k:Grow w1 c):aJo d j g i e f b w1 c:=⟨fun a=>absurd a l,fun a=>absurd a m,fun _ _=>k⟩
def aFo {n w1 r:World} {a d b c g:Nat} {s t:Int} (u:aJp n a d b c w1) (i:aJo a d b c s t g w1 r):aJp n a d b c r:=by
 obtain ⟨e,l,m,f⟩:=u;by_cases o:g=14;obtain ⟨j,k⟩:=i.1 o;exact ⟨e.trans j,_,_,k l m f⟩;by_cases p:g=17;obtain ⟨j,k⟩:=i.2.1 p;exact ⟨e.trans j,_,_,k l m f⟩;have q:=i.2.2 o p;exact ⟨e.trans (Keep.of_below q),l,m,f.grow q⟩
def N3 (a e c d:Nat) (b:Int):Value->World->Prop:=fun _ w1=>∃f,RowS a e c d b f w1
def N4 (a e c d:Nat) (b:Int):Value->World->Prop:=fun _ w1=>∃f,RowS a e c d f b w1
def qB (E Z a m l q:Nat) (a5 x:Int) (s:List Bool) (u:World) (Q:Bk u E 261 #[Z,.slice (some a) 1 m,.int .i64 a5,.int .i64 x]) {a8 a9:Int} (B:RowS q a m l a8 a9 u) (J:Bk u l 292 (gK s)) (a2:s.length<=128):
 Calls prog 286 #[E,.int .i64 0] u fun g S=>g=.returned (.tuple #[])/\Keep (fun y=>y=a) u S/\RowS q a m l (s.length:Int) ((s.count true:Nat):Int) S:=by
 obtain ⟨r,G⟩:∃r:Int,(s.length:Int)=r:=⟨_,rfl⟩;obtain ⟨o,H⟩:∃o:Int,((s.count true:Nat):Int)=o:=⟨_,rfl⟩;rw [G,H];obtain ⟨V,W⟩:=hqq2 G H;have ab:u.cell? ⟨E,1,none⟩=some (.slice (some a) 1 m):=(Q.cell 1).trans rfl;have ac:u.cell? ⟨a,7,none⟩=some (.pointer (some l)):=(World.ownsRow.cellAt B 7 oM).trans rfl;have aB:=B.lt;have O:=B.bk_ne J dC;obtain ⟨N,X⟩:=hqq2 J B;clear G H Q J B;go_enter func286,ntmps286;go_wp2;refine wp_region_any kR ?_;refine oU [18,19,20,21,22,23,24,25,26,27,28,29,30,31,32,33] (aJp u q a m l) (aJo q a m l r o) (fun _ _=>True) (Vs [is a,is a,is a,is a,is (.pointer (some ⟨a,7,none⟩)),is l,is (.int .i64 r),is a,is a,is (.pointer (some ⟨a,7,none⟩)),is l,is (.int .i64 o),is a,is (.pointer (some ⟨a,3,none⟩)),N3 q a m l r,is a,is (.pointer (some ⟨a,4,none⟩)),N4 q a m l o]) _ _ rfl kR ⟨⟨rfl,rfl,rfl,zAs _,fun _ _ _=>rfl⟩,_,_,X.out⟩ (fun _=>trivial) (fun L w1 a6 z w=>aFo z w) (fun _ _ _ _ _ _ _ _ _=>trivial) ?_ ?_ ?_;intro R L x w1 a6 P aA f az w;rcases R with _ | _ | _ | _ | _ | _ | _ | _ | _ | _ | _ | _ | _ | _ | _ | _ | _ | _ | R;exact f;exact f;exact f;exact f;exact f;exact f;exact f;exact f;exact f;exact f;exact f;exact f;exact f;exact f;obtain ⟨U,f⟩:=f;by_cases C:L=17;exact ⟨_,(w.2.1 C).2 _ _ f⟩;exact ⟨_,RowS.grow f (w.2.2 (fun g=>P g.symm) C)⟩;exact f;exact f;obtain ⟨T,f⟩:=f;by_cases A:L=14;exact ⟨_,(w.1 A).2 _ _ f⟩;exact ⟨_,RowS.grow f (w.2.2 A (fun g=>P g.symm))⟩;exact trivial
 · refine aR ?_;refine sC3 (fun t _ b _ _ _ v _ _ _ _ c=>?_) ?_
   · obtain ⟨i,j,k,e⟩:=b;have D:t (.tmp 4)=.pointer (some a):=v 4 kR;go_simp;exact c _ _ (cJ dC dC bR) rfl
   refine sC3 (fun t _ b _ _ _ v _ _ _ _ c=>?_) ?_
   · obtain ⟨i,j,k,e⟩:=b;have D:t (.tmp 4)=.pointer (some a):=v 4 kR;go_simp;exact c _ _ (cJ dC dC bR) rfl
   refine sC3 (fun t _ b _ _ _ v _ _ _ _ c=>?_) ?_
   · obtain ⟨i,j,k,e⟩:=b;have D:t (.tmp 4)=.pointer (some a):=v 4 kR;go_simp;exact c _ _ (cJ dC dC bR) rfl
   refine sC3 (fun _ _ b _ _ _ _ d _ _ _ c=>?_) ?_
   · obtain ⟨i,j,k,e⟩:=b;have ah:_=_:=d 2 20 kR rfl;go_simp;exact c _ _ (cJ dC dC bR) rfl
   refine sC3 (fun _ _ b _ _ _ _ d _ _ _ c=>?_) ?_
   · obtain ⟨i,j,k,e⟩:=b;have ai:_=_:=d 3 21 kR rfl;go_simp;exact c _ _ (cJ dC dC bR) rfl
   refine sC3 (fun _ n b _ _ _ _ d _ _ _ c=>?_) ?_
   · obtain ⟨i,j,k,e⟩:=b;have aj:_=_:=d 4 22 kR rfl;have Y:n.cell? ⟨a,7,none⟩=some (.pointer (some l)):=(World.ownsRow.cellAt e 7 oM).trans rfl;go_simp;exact c _ _ (cJ dC dC bR) rfl
   refine sC3 (fun _ n b _ _ _ _ d _ _ _ c=>?_) ?_
   · obtain ⟨i,j,k,e⟩:=b;have ak:_=_:=d 5 23 kR rfl;have K:=i.bk N.out (fun g=>O g);go_simp;refine (rC l s n K).mono ?_;rintro g a7 ⟨rfl,rfl⟩;exact c _ _ (cJ dC dC bR) (dT V.out)
   refine sC3 (fun t _ b _ _ _ v _ _ _ _ c=>?_) ?_
   · obtain ⟨i,j,k,e⟩:=b;have D:t (.tmp 4)=.pointer (some a):=v 4 kR;go_simp;exact c _ _ (cJ dC dC bR) rfl
   refine sC3 (fun _ _ b _ _ _ _ d _ _ _ c=>?_) ?_
   · obtain ⟨i,j,k,e⟩:=b;have am:_=_:=d 7 25 kR rfl;go_simp;exact c _ _ (cJ dC dC bR) rfl
   refine sC3 (fun _ _ b _ _ _ _ d _ _ _ c=>?_) ?_
   · obtain ⟨i,j,k,e⟩:=b;have an:_=_:=d 8 26 kR rfl;go_simp;exact c _ _ (cJ dC dC bR) rfl
   refine sC3 (fun _ n b _ _ _ _ d _ _ _ c=>?_) ?_
   · obtain ⟨i,j,k,e⟩:=b;have ao:_=_:=d 9 27 kR rfl;have Y:n.cell? ⟨a,7,none⟩=some (.pointer (some l)):=(World.ownsRow.cellAt e 7 oM).trans rfl;go_simp;exact c _ _ (cJ dC dC bR) rfl
   refine sC3 (fun _ n b _ _ _ _ d _ _ _ c=>?_) ?_
   · obtain ⟨i,j,k,e⟩:=b;have ap:_=_:=d 10 28 kR rfl;have K:=i.bk N.out (fun g=>O g);go_simp;refine (yH l s n K a2).mono ?_;rintro g a7 ⟨rfl,rfl⟩;exact c _ _ (cJ dC dC bR) (dT W.out)
   refine sC3 (fun _ _ b _ _ _ _ d _ _ _ c=>?_) ?_
   · obtain ⟨i,j,k,e⟩:=b;have af:_=_:=d 0 18 kR rfl;go_simp;exact c _ _ (cJ dC dC bR) rfl
   refine sC3 (fun _ _ b _ _ _ _ d _ _ _ c=>?_) ?_
   · obtain ⟨i,j,k,e⟩:=b;have ar:_=_:=d 12 30 kR rfl;go_simp;exact c _ _ (cJ dC dC bR) rfl
   refine sC3 (fun _ n b _ _ _ _ d _ _ _ c=>?_) ?_
   · obtain ⟨i,j,k,e⟩:=b;have au:_=_:=d 13 31 kR rfl;have al:_=_:=d 6 24 kR rfl;have ad:n.cell? ⟨a,3,none⟩=some (.int .i64 j):=(World.ownsRow.cellAt e 3 oM).trans rfl;have ax:=World.ownsRow.frozenAt e 3;go_simp;exact c (.bool true) _ ⟨fun _=>⟨Keep.setCell (F:=fun y=>y=a) (Keep.refl _ _) (p:=⟨a,3,none⟩) (.inl rfl) _,fun T U z=>z.at3 r⟩,fun g=>absurd g dC,fun g=>absurd rfl g⟩ ⟨k,e.at3 r⟩
   refine sC3 (fun _ _ b _ _ _ _ d _ _ _ c=>?_) ?_
   · obtain ⟨i,j,k,e⟩:=b;have ag:_=_:=d 1 19 kR rfl;go_simp;exact c _ _ (cJ dC dC bR) rfl
   refine sC3 (fun _ _ b _ _ _ _ d _ _ _ c=>?_) ?_
   · obtain ⟨i,j,k,e⟩:=b;have av:_=_:=d 15 32 kR rfl;go_simp;exact c _ _ (cJ dC dC bR) rfl
   refine sC3 (fun _ n b _ _ _ _ d _ _ _ c=>?_) ?_
   · obtain ⟨i,j,k,e⟩:=b;have aw:_=_:=d 16 33 kR rfl;have aq:_=_:=d 11 29 kR rfl;have ae:n.cell? ⟨a,4,none⟩=some (.int .i64 k):=(World.ownsRow.cellAt e 4 oM).trans rfl;have ay:=World.ownsRow.frozenAt e 4;go_simp;exact c (.bool true) _ ⟨fun g=>absurd g dC,fun _=>⟨Keep.setCell (F:=fun y=>y=a) (Keep.refl _ _) (p:=⟨a,4,none⟩) (.inl rfl) _,fun T U z=>z.at4 o⟩,fun _ g=>absurd rfl g⟩ ⟨j,e.at4 o⟩
   exact aH
 · intro t M b d I;obtain ⟨a1,_⟩:=b;obtain ⟨_,aa,A⟩:∃x,N3 q a m l r x M:=I 14 dC;obtain ⟨_,aC,C⟩:∃x,N4 q a m l o x M:=I 17 dC;have a0:RowS q a m l r o M:=(by have a3:=(World.ownsRow.cellAt A 4 oM).symm.trans (World.ownsRow.cellAt C 4 oM);have a4:aa=o:=(by simpa [yZ] using a3);rw [<-a4];exact A);simp only [zqq];clear d I;go_wp2;exact bodyPost_ret (results_none rfl _ _ _) rfl ⟨rfl,a1,a0⟩
def aFc:(prog.info? 271).map (fun a=>(a.zero,a.size,a.bytes))=some (some (.agg #[.int .i64 0,.int .i64 0,.int .i64 0,.int .i64 0,.int .i64 0,.int .i64 0,.int .i64 0,.pointer none]),8,64):=by kernel_rfl
def aBD {c:World} {b e:Nat} {f:TypeId} {a:Array Value} (d:Bk c b f a) (g:a.size=e):Rd c c.heap.size e (some ⟨b,0,none⟩) 1 a.toList:=by
 refine ⟨by simp [g],fun _=>⟨b,0,rfl,d.lt,fun j k i=>?_⟩⟩;rw [zBi,d.cell j];rw [<-i];simp
structure Leaf (w:World) (B gt ga gl cl gb:Nat) (rt v:Int) (bs:List Bool):Prop where
 tree:Bk w gt 261 #[ga,.slice (some gl) 1 cl,.int .i64 rt,.int .i64 v]
 row:RowS B gl cl gb (bs.length:Int) ((bs.count true:Nat):Int) w
 blk:Bk w gb 292 (gK bs)
 arena:∃A c,Bk w ga 150 #[.slice A 1 c,.slice none 0 0,.int .i64 268435456]/\Made w B 4 1 A 1 c [.bool true]
def aH7 {k:World} {c:Nat} {b:Option Addr} {d:Nat} {l:List Value} {e:TypeId} {j:Nat} (i:k.ownsRow c e j (.slice b 1 d) 1 l):∃g,b=some ⟨g,0,none⟩:=by
 obtain ⟨f,m,a,_,_⟩:=World.ownsRow.form i oM;injection a with a;exact ⟨f,a⟩
def aIh {i j:World} {o d m r v:Nat} {A B:Int} {c:Option Addr} {b e:Nat} {k:List Value} (y:RowS o m r v A B i) (z:Keep (fun p=>p=m) i j) (a:Made i d 4 1 c b e k):Made j d 4 1 c b e k:=by
 have n:j.ownsRow d 4 1 (.slice c b e) b k:=by refine ⟨a.own.1,?_⟩;rcases a.own.2 with f |⟨l,q,s,f,w,g,x⟩;exact .inl f;refine .inr ⟨l,q,s,f,w,(z.block l (lt_of_block g) (fun u=>?_)).trans g,x⟩;exact y.bk_ne (t:=4) g dC u
 exact ⟨n,Rd.of_own n,a.cap,a.max⟩
def aDg (a i g:Nat) (z:Int) (G:List Bool) (j:World) (y:Bk j a 261 #[i,.slice none 0 0,.int .i64 (-1),.int .i64 z]) (v:Bk j i 150 #[.slice none 0 0,.slice none 0 0,.int .i64 268435456]) (k:Bk j g 292 (gK G)) (am:G.length<=128):
 Calls prog 283 #[a,.agg #[.int .i64 (-1),.int .i64 (-1),.int .i64 0,.int .i64 0,.int .i64 0,.int .i64 0,.int .i64 0,g]] j fun m Z=>m=.returned (.int .i64 0)/\Keep (fun b=>b=i∨b=a) j Z/\∃n a6,Leaf Z j.heap.size a i n a6 g (-1) z G:=by
 obtain ⟨aC,aj,az,aA,aB⟩:=info_parts aFc;have b0:=y.lt;have aX:=v.lt;have aY:=k.lt;have X:a≠i:=Bk.ne y v dC;have ax:a≠g:=Bk.ne y k dC;have ae:i≠g:=Bk.ne v k dC;have b2:j.cell? a=some (.pointer (some i)):=(y.cell 0).trans rfl;obtain ⟨a5,a3,a4⟩:=hqq3 y v k;clear y v k;go_enter func283,ntmps283;go_wp2_with fail;obtain ⟨f,T⟩:=eqx j.heap.size;refine (aDN i _ (a3.out.alloc _)).mono ?_;rintro m w1 ⟨rfl,x,N,O,ab,S⟩;have ap:Bk w1 f 271 #[.int .i64 (-1),.int .i64 (-1),.int .i64 0,.int .i64 0,.int .i64 0,.int .i64 0,.int .i64 0,g]:=by rw [<-T];exact x.bk (Bk.new j _ _) (fun d=>absurd (show j.heap.size=i from d) oM)
 have V:=x.bk (a5.out.alloc _) (fun d=>X d);have af:=x.bk (a4.out.alloc _) (fun d=>ae d.symm);have av:=x.size;rw [World.size_alloc] at av S;have b3:w1.cell? ⟨a,1,none⟩=some (.slice none 0 0):=(V.cell 1).trans rfl;have a1:=lhd x;clear x;go_wp2_with fail;refine wp_region_any kR ?_;refine bX [22,23,24,25,26,27,28,29,30,31] (fun b=>b=a) 10 [4,10] (fun r=>Bk r a 261 #[i,.slice none 0 0,.int .i64 (-1),.int .i64 z]) (fun _ r=>∃s t,Bk r a 261 #[i,.slice s 1 t,.int .i64 (-1),.int .i64 z]/\Made r (f+1) 271 8 s 1 t (yZ 0 0 g)) [is a,is a,is a,is (.pointer (some ⟨a,1,none⟩)),is (.slice none 0 0),is (.agg #[.int .i64 (-1),.int .i64 (-1),.int .i64 0,.int .i64 0,.int .i64 0,.int .i64 0,.int .i64 0,g]),uR (fun b=>b=a) 271 #[.int .i64 (-1),.int .i64 (-1),.int .i64 0,.int .i64 0,.int .i64 0,.int .i64 0,.int .i64 0,g] fun I=>.slice (some ⟨I,0,none⟩) 1 1,aG3 (f+1) 271 8 1 (yZ 0 0 g),is a,is (.pointer (some ⟨a,1,none⟩)),dF] _ _ rfl kR kR (V) (fun r b6 d _ ai=>Bk.below d ai d.lt) (fun _ _ _ ⟨s,t,P,aa⟩ H=>⟨s,t,Bk.below P H P.lt,aa.below H⟩) (by repeat' (first | exact mQ _ _ | exact jZ _ | exact oE _ _ _ _ | exact aET (fun b k=>by subst k;omega) _ _ _ _ |(refine zAe.2 ⟨?_,?_⟩)|(intro Y ar;cases ar))) ?_ ?_
 · refine aR ?_;refine pH3 0 (.pointer (some a)) ?_;refine pH3 0 (.pointer (some a)) ?_;refine pV3 1 23 ?_;refine pV3 2 24 ?_;refine sC3 (fun _ c _ J _ _ _ l _ _ _ o=>?_) ?_
   · have C:=J rfl;have aN:_=_:=l 3 25 kR rfl;have aK:c.cell? ⟨a,1,none⟩=some (.slice none 0 0):=(C.cell 1).trans rfl;go_simp;exact kq o rfl
   refine sC3 (fun w c e _ _ _ aq _ _ _ _ o=>?_) ?_
   · replace e:Keep (fun b=>b=a) w1 c:=kD e;have aQ:w (.tmp 3)=.pointer (some ⟨f,0,none⟩):=aq 3 kR;have q:=e.bk ap (fun d=>absurd (show f=a from d) oM);have b7:c.cell? ⟨f,0,none⟩=some (.int .i64 (-1)):=(q.cell 0).trans rfl;have b8:c.cell? ⟨f,1,none⟩=some (.int .i64 (-1)):=(q.cell 1).trans rfl;have b9:c.cell? ⟨f,2,none⟩=some (.int .i64 0):=(q.cell 2).trans rfl;have ba:c.cell? ⟨f,3,none⟩=some (.int .i64 0):=(q.cell 3).trans rfl;have bb:c.cell? ⟨f,4,none⟩=some (.int .i64 0):=(q.cell 4).trans rfl;have bc:c.cell? ⟨f,5,none⟩=some (.int .i64 0):=(q.cell 5).trans rfl;have bd:c.cell? ⟨f,6,none⟩=some (.int .i64 0):=(q.cell 6).trans rfl;have be:c.cell? ⟨f,7,none⟩=some (.pointer (some g)):=(q.cell 7).trans rfl;go_simp;exact kq o rfl
   refine sC3 (fun _ c e _ _ _ _ l _ _ _ o=>?_) ?_
   · replace e:Keep (fun b=>b=a) w1 c:=kD e;have aO:_=_:=l 5 27 kR rfl;go_simp;exact o _ _ (aL (bR.alloc nL _)) ⟨_,rfl,Bk.new _ _ _,fun d=>by have:=e.size;have aV:c.heap.size=a:=d;omega⟩
   refine sC3 (fun w c e _ _ _ _ l _ _ v o=>?_) ?_;replace e:Keep (fun b=>b=a) w1 c:=kD e;have a7:_=_:=l 4 26 kR rfl;have aF:(uR (fun b=>b=a) 271 #[.int .i64 (-1),.int .i64 (-1),.int .i64 0,.int .i64 0,.int .i64 0,.int .i64 0,.int .i64 0,g] fun I=>.slice (some ⟨I,0,none⟩) 1 1) (w (.tmp 28)) c:=l 6 28 kR rfl;obtain ⟨a9,a8,ag,b1⟩:=aF;subst v;have ay:f+1<=c.heap.size:=(by have:=e.size;omega);refine fU c (.tmp 26) (.tmp 28) _ rfl (f+1) 271 aC _ 8 64 underlying259 aj az aA aB rfl dC (.slice none 0 0) 0 [] a7 (World.ownsRow_nil _ _ _ _) c.heap.size (some ⟨a9,0,none⟩) 1 1 _ a8 (aBD ag rfl) (by simp [Value.oneCell']) (by unfold maxLen;omega) oM ay ?_;intro b4 D U A aW;rw [zBi,List.nil_append] at U;obtain ⟨E,u,rfl,L⟩:=aU U;exact o _ _ (aL ⟨A.os,A.tape,A.output,A.size,fun H ak=>A.block H ak (by simp [Value.ownBlock])⟩) ⟨E,u,rfl,L⟩;refine pV3 0 22 ?_;refine pV3 8 30 ?_;refine sC3 (fun w c _ J _ _ _ l _ _ _ o=>?_) ?_
   · have C:=J rfl;have aS:_=_:=l 9 31 kR rfl;have aG:(aG3 (f+1) 271 8 1 (yZ 0 0 g)) (w (.tmp 29)) c:=l 7 29 kR rfl;obtain ⟨E,u,aP,L⟩:=aG;have aM:c.cell? ⟨a,1,none⟩=some (.slice none 0 0):=(C.cell 1).trans rfl;have aT:=C.frozen 1;go_simp;exact o (.bool true) _ (bC (Keep.setCell (F:=fun b=>b=a) (Keep.refl _ _) (p:=⟨a,1,none⟩) (.inl rfl) _)) ⟨E,u,C.set 1 _,L.keepF (Keep.setCell (F:=fun b=>b=a) (Keep.refl _ _) (p:=⟨a,1,none⟩) (.inl rfl) _) (fun b k=>by subst k;omega)⟩
   exact aH
 · intro w D e l Q;replace e:Keep (fun b=>b=a) w1 D:=kD e;obtain ⟨b5,aI⟩:∃aJ,(fun _ r=>∃s t,Bk r a 261 #[i,.slice s 1 t,.int .i64 (-1),.int .i64 z]/\Made r (f+1) 271 8 s 1 t (yZ 0 0 g)) aJ D:=Q 10 dC;simp only [zqq];clear l Q;obtain ⟨E,u,W,K⟩:=aI;obtain ⟨n,rfl⟩:=aH7 K.own;have M:RowS (f+1) n u g 0 0 D:=K.own;have R:=e.bk af (fun d=>ax d.symm);have ac:=e.bk ab (fun d=>X d.symm);have an:=S.keepF e (fun b k=>by subst k;omega);have a2:=lhd e;have aZ:=M.lt;clear e K;go_wp2_with fail;refine (qB a i n u g (f+1) (-1) z G D W M R am).mono ?_;rintro m a0 ⟨rfl,B,au⟩;have aw:=B.bk W (fun d=>absurd (show a=n from d) oM);have ah:=B.bk R (fun d=>absurd (show g=n from d) oM);have ad:=B.bk ac (fun d=>absurd (show i=n from d) oM);have ao:Made a0 j.heap.size 4 1 N 1 O [.bool true]:=(aIh M B an).mono oM;have al:Keep (fun b=>b=i∨b=a) j a0:=(by have aD:Keep (fun b=>b=i∨b=a) j w1:=(Keep.of_below (bR.alloc nL _)).trans (a1.out.mono (fun b _ m=>.inl m));have aE:=aD.trans (a2.out.mono (fun b _ m=>.inr m));exact aE.trans' B (fun b k m=>absurd (show b=n from m) oM));go_wp2_with fail;go_ret;rw [T] at*
   exact ⟨rfl,al,n,u,aw,bV au oM,ah,N,O,ad,ao⟩
def uZ (c b e:Nat) (i:Int) (d:List Bool) (a:World) (r:Bk a c 261 #[b,.slice none 0 0,.int .i64 (-1),.int .i64 i]) (n:Bk a b 150 #[.slice none 0 0,.slice none 0 0,.int .i64 268435456]) (o:Bk a e 292 (gK d)) (q:d.length<=128):
 Calls prog 272 #[c,e] a fun k l=>k=.returned (.int .i64 0)/\Keep (fun j=>j=b∨j=c) a l/\∃g f,Leaf l a.heap.size c b g f e (-1) i d:=by
 go_enter func272,ntmps272;go_wp2_with fail;refine (aDg c b e i d a r n o q).mono ?_;rintro k w1 ⟨rfl,p,g,f,m⟩;go_wp2_with fail;go_ret;exact ⟨rfl,p,g,f,m⟩
def aFD (b:Nat) (c:List Bool):Value->World->Prop:=fun d e=>∃a,d=.tuple #[.pointer (some ⟨a,0,none⟩),.int .i64 0]/\Bk e a 292 (gK c)/\b<=a
def aHy (b:Nat) (c:List Bool):Value->World->Prop:=fun d e=>∃a,d=.pointer (some ⟨a,0,none⟩)/\Bk e a 292 (gK c)/\b<=a
def aEU (a:Nat) (b:List Bool):xM (fun _=>False) (aFD a b):=fun _ _ _ ⟨c,e,f,g⟩ i=>⟨c,e,i.bk f (fun d=>d),g⟩
def aEV (a:Nat) (b:List Bool):xM (fun _=>False) (aHy a b):=fun _ _ _ ⟨c,e,f,g⟩ i=>⟨c,e,i.bk f (fun d=>d),g⟩
def Leaf.mono {l:World} {B B' g d f c e:Nat} {j k:Int} {b:List Bool} (a:Leaf l B g d f c e j k b) (i:B'<=B):Leaf l B' g d f c e j k b:=by
 obtain ⟨m,n,o,p⟩:=a.arena;exact ⟨a.tree,bV a.row i,a.blk,m,n,o,p.mono i⟩
def aFC (p o:Nat) (y:Int) (g:Option Addr) (d i z:Nat) (e:List Bool) (b:World) (w:Bk b p 261 #[o,.slice none 0 0,.int .i64 (-1),.int .i64 y]) (n:Bk b o 150 #[.slice none 0 0,.slice none 0 0,.int .i64 268435456]) (v:Rd b z 1 g d (e.map Value.bool)) (P:z<=b.heap.size) (G:d<=128) (ak:d<=i):
 Calls prog 239 #[p,.slice g d i,.int .i64 0,.int .i64 1,.int .i64 1] b fun s H=>s=.returned (.int .i64 0)/\Keep (fun A=>A=o∨A=p) b H/\∃u r l,Leaf H b.heap.size p o u r l (-1) y e/\b.heap.size<=l:=by
 have E:e.length=d:=by simpa using v.1
 have ah:((d:Int)*1).tdiv 1=(d:Int):=by rw [Int.mul_one,Int.tdiv_one]
 have aj:=w.lt;have ai:=n.lt;obtain ⟨M,J,L,K,a4⟩:=hqq5 w n (v.mono P) E (Below.refl b.heap.size b);clear w n v E;go_enter func239,ntmps239;go_wp2_with fail;refine wp_region_any kR ?_;refine bX [20,21,22,23,24,25,26,27,28,29,30,31,32,33,34,19,35,36,11,12] (fun _=>False) 19 [] (fun _=>True) (dF) [is (.slice g d i),is (.slice g d i),is (d:Int),is (.int .i64 0),is (.int .i64 0),is (.int .i64 1),is (.int .i64 0),is (.slice g d i),is (d:Int),is (.int .i64 1),is (d:Int),is (.int .i64 1),is (d:Int),is (.slice g d i),aFD b.heap.size e,aFD b.heap.size e,aHy b.heap.size e,is (.int .i64 0),aHy b.heap.size e,dF] _ _ rfl kR kR (trivial) (fun _ _ _ _ _=>trivial) (fun _ _ _ _ _=>trivial) (by repeat' (first | exact mQ _ _ | exact jZ _ | exact aEU _ _ | exact aEV _ _ |(refine zAe.2 ⟨?_,?_⟩)|(intro al W;cases W))) ?_ ?_
 · refine aR ?_;refine pH3 1 (.slice g d i) ?_;refine pH3 1 (.slice g d i) ?_;refine pV3 1 21 ?_;refine pH3 2 (.int .i64 0) ?_;refine sC3 (fun _ _ _ _ _ _ _ a _ _ _ c=>?_) ?_
   · have a6:_=_:=a 2 22 kR rfl;have a7:_=_:=a 3 23 kR rfl;go_simp;exact c _ _ (aL bR) (dT (by simp [IntKind.wrap_i64] <;> omega))
   refine pH3 4 (.int .i64 1) ?_;refine sC3 (fun _ _ _ _ _ _ _ a _ _ _ c=>?_) ?_
   · have a8:_=_:=a 4 24 kR rfl;have a9:_=_:=a 5 25 kR rfl;go_simp;exact c _ _ (aL bR) (dT (by simp [IntKind.wrap_i64] <;> omega))
   refine pH3 1 (.slice g d i) ?_;refine pV3 7 27 ?_;refine pH3 3 (.int .i64 1) ?_;refine sC3 (fun _ _ _ _ _ _ _ a _ _ _ c=>?_) ?_
   · have ab:_=_:=a 8 28 kR rfl;have ac:_=_:=a 9 29 kR rfl;go_simp;exact c _ _ (aL bR) (dT (by simp [IntKind.wrap_i64] <;> omega))
   refine pH3 4 (.int .i64 1) ?_;refine sC3 (fun _ _ _ _ _ _ _ a _ _ _ c=>?_) ?_
   · have ad:_=_:=a 10 30 kR rfl;have ae:_=_:=a 11 31 kR rfl;go_simp;exact c _ _ (aL bR) (dT (by simp [IntKind.wrap_i64] <;> omega))
   refine sC3 (fun _ _ _ _ _ _ _ a _ _ _ c=>?_) ?_
   · have a5:_=_:=a 0 20 kR rfl;have aa:_=_:=a 6 26 kR rfl;have af:_=_:=a 12 32 kR rfl;go_simp;exact kq c rfl
   refine sC3 (fun _ k f _ _ _ _ a _ _ _ c=>?_) ?_
   · replace f:Keep (fun _=>False) b k:=kD f;have ag:_=_:=a 13 33 kR rfl;go_simp;have X:=f.rd L.out nL (fun _ _ m=>m);refine (lN g d i b.heap.size e k X f.size G).mono ?_;rintro s ap ⟨rfl,S,V⟩;exact c _ _ (aL V) ⟨_,rfl,S,f.size⟩
   refine sC3 (fun j k _ _ _ _ _ a _ _ _ c=>?_) ?_
   · have a1:(aFD b.heap.size e) (j (.tmp 34)) k:=a 14 34 kR rfl;go_simp;exact c _ _ (aL bR) a1
   refine sC3 (fun j k _ _ _ _ _ a _ _ n c=>?_) ?_
   · have x:(aFD b.heap.size e) (j (.tmp 19)) k:=a 15 19 kR rfl;go_simp;obtain ⟨l,t,D,F⟩:=x;subst n;rw [t];go_simp;exact c _ _ (aL bR) ⟨l,rfl,D,F⟩
   refine sC3 (fun j k _ _ _ _ _ a _ _ n c=>?_) ?_
   · have x:(aFD b.heap.size e) (j (.tmp 19)) k:=a 15 19 kR rfl;go_simp;obtain ⟨l,t,D,F⟩:=x;subst n;rw [t];go_simp;exact kq c rfl
   refine sC3 (fun j k _ _ _ _ _ a _ _ _ c=>?_) ?_
   · have a2:(aHy b.heap.size e) (j (.tmp 35)) k:=a 16 35 kR rfl;go_simp;exact c _ _ (aL bR) a2
   refine sC3 (fun _ _ _ _ _ _ _ a _ _ _ c=>?_) ?_
   · have B:_=_:=a 17 36 kR rfl;go_simp;exact c _ _ (aL bR) trivial
   exact aH
 · intro j q f a C;replace f:Keep (fun _=>False) b q:=kD f;have a0:(aHy b.heap.size e) (j (.tmp 11)) q:=a 18 11 rfl;have B:j (.tmp 36)=.int .i64 0:=a 17 36 rfl;obtain ⟨an,am⟩:∃a3,(dF) a3 q:=C 19 dC;simp only [zqq];rw [B];clear a C;obtain ⟨l,N,R,T⟩:=a0;rw [N];have Z:=f.bk M.out (fun m=>m);have Q:=f.bk J.out (fun m=>m);have Y:=f.size;have I:=lhd f;clear f;go_wp2_with fail;refine (uZ p o l y e q Z Q R (by rw [K.out];exact G)).mono ?_;rintro s ao ⟨rfl,U,u,r,O⟩;go_wp2_with fail;go_ret;exact ⟨rfl,(I.out.mono (fun _ _ m=>m.elim)).trans U,u,r,l,O.mono Y,T⟩
end
end Go.Proofs.YtcfpmjbojoidoaaGreatDoor
