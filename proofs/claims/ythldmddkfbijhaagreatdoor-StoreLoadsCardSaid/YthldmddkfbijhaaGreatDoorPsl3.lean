/- Lemmas of the walk. Conditions: each its own. -/
import Derived.Test.YthldmddkfbijhaaGreatDoorPsl2
import Derived.Test.YthldmddkfbijhaaGreatDoorProg
set_option linter.all false
set_option maxRecDepth 100000
set_option maxHeartbeats 4000000
namespace Go.Proofs.YthldmddkfbijhaaGreatDoor
open Tryz
section
def gA (a:List (Int×Nat)):List UInt8:=a.flatMap cS
def rC (b:Int×Nat) (a:List (Int×Nat)):gA (b::a)=cS b++gA a:=by simp [gA]
def tR (a:Int×Nat) (b:List (Int×Nat)):eL (a::b)=List.replicate a.2 a.1++eL b:=by simp [eL]
def aFG:Nat->List (Int×Nat)->Prop
 | _, []=>True
 | last,x::q=>(jL x.1/\x.1.toNat≠last/\1<=x.2/\x.2 < 18446744073709551616)/\aFG x.1.toNat q
def aF6 (d:List UInt8) (b:Nat) (a:Int×Nat) (c:List UInt8) (i:jL a.1) (j:a.2 < 18446744073709551616) (e:d.drop b=cS a++c):oO d b=some (a.1.toNat,a.2,b+(cS a).length):=by
 have f:=oD a.1.toNat (by have:=i.2;omega) (cE a.2++c) b;rw [cS,zCo] at e;rw [<-e] at f;have m:d.drop (b+(cE a.1.toNat).length)=cE a.2++c:=by rw [<-List.drop_drop,e,List.drop_left]
 have g:=oD a.2 j c (b+(cE a.1.toNat).length);rw [<-m] at g;rw [vS _ _ _ _ _ _ f g,cS,zAi,Nat.add_assoc]
def aHB (e:List UInt8) (m i:Nat) (n:List UInt8):∀(a:List (Int×Nat)) (c f:Nat) (d:List Int),e.drop c=gA a++n->aFG f a->d.length+(eL a).length<=m->
 ∃B,rgo e m (a.length+i) c f d=rgo e m i (c+(gA a).length) B (d++eL a):=by
 intro a
 induction a with
 | nil=>intro c f d _ _ _;exact ⟨f,by simp [gA,eL]⟩
 | cons b a z=>
   intro c f d j s v;obtain ⟨⟨g,C,E,o⟩,q⟩:=s;rw [rC,zCo] at j;have x:=aF6 e c b _ g o j;rw [tR,zAi,zCn] at v;have r:(b::a).length+i=(a.length+i)+1:=(by simp;omega);rw [r,aCm _ _ _ _ _ _ _ _ _ x,zBw (by have:=g.1;have:=g.2;omega),zBw oM];have y:((b.1.toNat:Nat):Int)=b.1:=(by have:=g.1;omega);rw [y];have t:e.drop (c+(cS b).length)=gA a++n:=(by rw [<-List.drop_drop,j,List.drop_left]);obtain ⟨A,u⟩:=z (c+(cS b).length) b.1.toNat (d++List.replicate b.2 b.1) t q (by rw [zAi,zCn];omega);refine ⟨A,?_⟩;rw [u,rC,tR,zAi,zCo,Nat.add_assoc]
def aIu (c:List (Int×Nat)) (n:tC c) (e:∀a∈c,jL a.1/\a.2 < 18446744073709551616) (f:Nat) (r:∀a,c[0]?=some a->a.1.toNat≠f):aFG f c:=by
 induction c generalizing f with
 | nil=>trivial
 | cons a c v=>
   obtain ⟨g,_,i⟩:=n;refine ⟨⟨(e a (List.mem_cons_self ..)).1,r a rfl,g a (List.mem_cons_self ..),(e a (List.mem_cons_self ..)).2⟩,?_⟩;refine v ⟨fun d b=>g d (List.mem_cons_of_mem _ b),List.pairwise_of_forall (by intros;trivial),fun u j m o q=>i (u+1) j m (by simpa using o) (by simpa using q)⟩ (fun d b=>e d (List.mem_cons_of_mem _ b)) _ ?_;intro d b;have:=i 0 a d rfl (by simpa using b);have s:=(e a (List.mem_cons_self ..)).1;have t:=(e d (List.mem_cons_of_mem _ (zAd b))).1;have:=s.1;have:=t.1;omega
def aEJ (l:List Int) (c:∀a∈bL l,jL a.1) (d:l.length < 18446744073709551616):aFG 257 (bL l):=
 aIu _ (aAg l) (fun a b=>⟨c a b,by have:=pD l a b;omega⟩) 257 fun a b=>by have:=(c a (zAd b)).2;have:=(c a (zAd b)).1;omega
def aAQ (l:List Int) (a:l.length < 18446744073709551616):(bL l).length < 18446744073709551616:=by have:=lJ l;omega
def aA9 (l:List Int) (j:∀m∈bL l,jL m.1) (d:l.length < 18446744073709551616) (most:Int) (n:(l.length:Int)<=most) (a:List UInt8):
 lT (eZ (bL l)++a) most=if a= [] then (l,0) else ([],4):=by
 have f:=oD (bL l).length (aAQ l d) (gA (bL l)++a) 0;have g:eZ (bL l)++a=cE (bL l).length++(gA (bL l)++a):=by simp [eZ,gA]
 rw [g,lT,f];simp only [zBi];have i:(cE (bL l).length++(gA (bL l)++a)).drop (cE (bL l).length).length=gA (bL l)++a:=List.drop_left;have c:=nC l;obtain ⟨o,e⟩:=aHB _ most.toNat 0 a (bL l) _ 257 [] i (aEJ l j d) (by rw [c];simp;omega);rw [zBq] at e;rw [e,c,List.nil_append,rgo];by_cases b:a= []
 · subst b;rw [zBx (by simp),zBx rfl]
 · have:0 < a.length:=List.length_pos_iff.2 b;rw [zBw (by simp;omega),zBw b]
end
section
open Go.RowKit
def aIY (w:World):(sizeOf 5).run prog w=.ok 1 w:=by kernel_rfl
def rM (b a:Nat) (f:b<=144115188075855871) (e:a < 256):bits .or .u64 ((b:Int)*128) (IntKind.u64.wrap (bits .and .u8 (a:Int) 127))=((b*128+a % 128:Nat):Int):=by
 have c:bits .and .u8 (a:Int) 127=((a % 128:Nat):Int):=by have:=u8_and_nat a 127 e oM;rw [nat_mask7] at this;exact this
 have d:IntKind.u64.wrap ((a % 128:Nat):Int)=((a % 128:Nat):Int):=by rw [IntKind.wrap_u64];omega
 rw [c,d,show ((b:Int)*128)=((b*128:Nat):Int) by push_cast;rfl,u64_or_nat _ _ oM oM,nat_join 7 (b*128) (a % 128) oM oM]
def nS {b:Nat} {c d:Int} {a:Nat×Int×Int} (e:a=(b,c,d)):Ending.returned (.tuple #[.int .u64 (b:Int),.int .i64 c,.int .i64 d])=Ending.returned (.tuple #[uv a.1,iv a.2.1,iv a.2.2]):=by subst e;rfl
def aCo {c:Nat} {f b d e:Int} {a:Nat×Int×Int} (j:f=(c:Int)) (i:d=b) (g:a=(c,b,e)):Ending.returned (.tuple #[.int .u64 f,.int .i64 d,.int .i64 e])=Ending.returned (.tuple #[uv a.1,iv a.2.1,iv a.2.2]):=by subst g;subst j;subst i;rfl
def aJG (r:Option Addr) (e o:Nat) (l:List UInt8) (g:Int) (L:Nat) (w:World) (z:Rd w L 1 r e (l.map bv)) (Y:e<=o) (S:o<=maxLen):
 Calls prog 104 #[.slice r e o,.int .i64 g] w fun Q Z=>Q=.returned (.tuple #[uv (eJ l g).1,iv (eJ l g).2.1,iv (eJ l g).2.2])/\w=Z:=by
 unfold maxLen at S;have J:l.length=e:=by simpa using z.1
 obtain ⟨n,O⟩:=hqq2 J z;clear J z;by_cases y:g < 0
 · have j:eJ l g=(0,g,2):=(by rw [eJ,zBx (.inl y)]);have f:=lhd j;clear j;go_enter func104,ntmps104;go_wp2;go_ret3;exact ⟨nS f.out,rfl⟩
 by_cases G:(e:Int) < g
 · have j:eJ l g=(0,g,2):=(by rw [eJ,zBx (.inr (by rw [n.out];exact G))]);have f:=lhd j;clear j;go_enter func104,ntmps104;go_wp2;go_ret3;exact ⟨nS f.out,rfl⟩
 obtain ⟨k,rfl⟩:=Int.eq_ofNat_of_zero_le (Int.not_lt.1 y);have I:k<=e:=oM;have j:eJ l (k:Int)=match eK (l.drop k) true 0 k with | some (B,p)=>(B,(p:Int),0)| none=>(0,(k:Int),4):=by rw [eJ,zBw (by rw [n.out];omega)];rfl
 have f:=lhd j;have x:=O.out.cut (k:=k) (cap:=o) I Y;have hcut:=pE (P:=prog) 26 5 1 underlying26 aIY r e o k I;generalize fT r o k 1=A' at x hcut;have M:=lhd x;have a2:decide ((k:Int) < 0)=false:=by simp
 have a3:decide (e < k)=false:=by simp;omega
 clear j y x G;go_enter func104,ntmps104;go_wp2
 go_loop [7,23] (fun B A=>∃a d:Nat,a<=e - k/\A=.int .i64 a/\B=.int .u64 d/\eK (l.drop (k+a)) (a==0) d (k+a)=eK (l.drop k) true 0 k) (fun _ A=>e -(intOf A).toNat)
 case atStart=>exact ⟨0,0,zAp _,rfl,rfl,rfl⟩
 case round=>
  obtain ⟨a,d,a4,rfl,rfl,F⟩:=hrel;have i:=lhd F;clear F;by_cases X:a < e - k
  · obtain ⟨C,a5,a6,rfl,a1,K,R⟩:=M.out.get X;have q:∃c,l[k+a]?=some c:=⟨l[k+a]'(by have:=n.out;omega),zAa (by have:=n.out;omega)⟩;obtain ⟨c,q⟩:=q;simp only [zBl,zBt,zAf,q,Option.map_some,Option.some.injEq] at K;subst K;unfold bv at R;have E:l.drop (k+a)=c::l.drop (k+a+1):=(by have V:k+a < l.length:=(by have:=n.out;omega);rw [zAx V];have:l[k+a]=c:=(zAc.1 q).2;rw [this]);have t:c.toNat < 256:=c.toNat_lt;rw [E,lU] at i;clear q E;go_wp2
    · have a0:(c.toNat:Int)=128:=(by assumption);have m:a=0:=(by assumption);go_ret3;refine ⟨nS ?_,rfl⟩;rw [f.out,<-i.out,zBx (by simp;left;omega)]
    · have m:a=0:=(by assumption);have s:((c.toNat:Int)==128)=true∨(144115188075855871:Int) < (d:Int):=(by assumption);go_ret3;refine ⟨nS ?_,rfl⟩;rw [f.out,<-i.out,zBx (by simp at s⊢;omega)]
    · have m:a=0:=(by assumption);have s:¬(c.toNat:Int)=128:=(by assumption);have u:((c.toNat:Int)==128)=false/\(d:Int)<=144115188075855871:=(by assumption);have v:(c.toNat:Int) < 128:=(by assumption);subst m;go_ret3;refine ⟨aCo (rM d _ oM t) ?_ (b:=((k+0+1:Nat):Int)) ?_,rfl⟩;push_cast;rfl
      · rw [f.out,<-i.out,zBw (by simp;omega),zBx oM]
    have m:a=0:=(by assumption);have s:¬(c.toNat:Int)=128:=(by assumption);have u:((c.toNat:Int)==128)=false/\(d:Int)<=144115188075855871:=(by assumption);have v:(128:Int)<=(c.toNat:Int):=(by assumption);subst m;refine ⟨⟨0+1,d*128+c.toNat % 128,by omega,rfl,jO (rM d _ oM t),?_⟩,by simp [intOf];omega⟩;rw [<-i.out,zBw (by simp;omega),zBw oM];rfl
    · have m:¬a=0:=(by assumption);have s:(144115188075855871:Int) < (d:Int):=(by assumption);go_ret3;refine ⟨nS ?_,rfl⟩;rw [f.out,<-i.out,zBx (by simp;omega)]
    · have m:¬a=0:=(by assumption);have u:(d:Int)<=144115188075855871:=(by assumption);have v:(c.toNat:Int) < 128:=(by assumption);go_ret3;refine ⟨aCo (rM d _ oM t) ?_ (b:=((k+a+1:Nat):Int)) ?_,rfl⟩;push_cast;rfl
      · rw [f.out,<-i.out,zBw (by simp;omega),zBx oM]
    · have m:¬a=0:=(by assumption);have u:(d:Int)<=144115188075855871:=(by assumption);have v:(128:Int)<=(c.toNat:Int):=(by assumption);refine ⟨⟨a+1,d*128+c.toNat % 128,by omega,by go_num,jO (rM d _ oM t),?_⟩,by simp [intOf];omega⟩;rw [<-i.out,zBw (by simp;omega),zBw oM];rfl
  · have H:a=e - k:=oM;have N:=lhd H;clear H;go_wp2;go_ret3;refine ⟨nS ?_,rfl⟩;have U:l.drop (k+a)= []:=List.drop_eq_nil_of_le (by rw [n.out];have:=N.out;omega);rw [f.out,<-i.out,U,eK]
def fF (c:Option Addr) (b a:Nat) (l:List UInt8) (d:Int) (e:Nat) (w:World) (g:Nat) (p k:Int) (j:eJ l d=(g,p,k)) (q:Rd w e 1 c b (l.map bv)) (o:b<=a) (m:a<=maxLen):
 Calls prog 104 #[.slice c b a,.int .i64 d] w fun f i=>f=.returned (.tuple #[.int .u64 (g:Int),.int .i64 p,.int .i64 k])/\w=i:=
 (aJG c b a l d e w q o m).mono fun f i ⟨n,r⟩=>⟨by rw [n,j];rfl,r⟩
def aGn (b a k:Nat) (f:b < 256 ^ k) (n:a < 256) (m:k < 4):bits .or .u32 (b:Int) ((a:Int)*2 ^(8*k)% 4294967296)=((b+a*256 ^ k:Nat):Int):=by
 have c:(256:Nat)^ k=2 ^(8*k):=by rw [Nat.pow_mul]
 have d:a*256 ^ k < 4294967296:=by have j:a*256 ^ k<=255*256 ^ k:=Nat.mul_le_mul_right _ oM;have g:256 ^ k<=256 ^ 3:=zBp oM oM;omega
 have i:b < 4294967296:=by have g:256 ^ k<=256 ^ 3:=zBp oM oM;omega
 have e:((a:Int)*2 ^(8*k)% 4294967296)=((a*256 ^ k:Nat):Int):=by
  rw [c] at d⊢;have:(a:Int)*2 ^(8*k)=((a*2 ^(8*k):Nat):Int):=by push_cast;rfl
  rw [this];omega
 rw [e,u32_or_nat _ _ i d,Nat.or_comm,nat_join (8*k) (a*256 ^ k) b (by rw [c];exact Nat.mul_mod_left _ _) (by rw [<-c];exact f),zCs]
def aGX (a:Nat) (w:World):
 Calls prog 43 #[.int .u32 (a:Int)] w fun o n=>∃b,o=.returned b/\n.ownsRow w.heap.size 5 1 b 4 ((rG a).map bv)/\Below w.heap.size w n:=by
 obtain ⟨z,t,v,x,y⟩:=info_parts kE;go_enter func43,ntmps43;go_wp2;go_loopw [0,3,4] (fun A b e wr=>∃k:Nat,k<=4/\e=.int .i64 k/\A=.int .u32 ((a / 256 ^ k:Nat):Int)/\wr.ownsRow w.heap.size 5 1 b k ((aBa k a).map bv)/\Below w.heap.size w wr) (fun _ _ e _=>4 -(intOf e).toNat)
 case atStart=>exact ⟨0,zAp _,rfl,by simp,World.ownsRow_nil _ _ _ _,Below.refl _ _⟩
 case round=>
  obtain ⟨k,C,rfl,rfl,d,c⟩:=hrel;have g:=c.size;by_cases E:k < 4
  · generalize i:a / 256 ^ k=m;have f:=lhd i;clear i;go_wp2_with (at_builtin;refine bO _ rfl (.tmp 6) (.tmp 9) _ rfl w.heap.size 5 z (.int .u8 0) 1 1 underlying26 t v x y rfl dC u3 k _ rfl d rfl rfl (by simp [Value.oneCell']) (by unfold maxLen;omega) oM g ?_;intro G H j s F B);have r:=aZ c d s g;refine ⟨⟨k+1,by omega,by go_num,jO ?_,?_,r⟩,by simp [intOf];omega⟩;rw [Nat.pow_succ,<-Nat.div_div_eq_div_mul,f.out];push_cast;rfl;have u:Value.int .u8 ((m:Int)% 256)=bv (UInt8.ofNat (m % 256)):=(by unfold bv;congr 1;simp [UInt8.toNat_ofNat']);rw [u] at j;rw [aBa,f.out];simpa using j
  · have q:k=4:=oM;subst q;go_wp2;go_ret;exact ⟨u3,rfl,d,c⟩
def aAE (c:Nat) (w:World):
 Calls prog 43 #[.int .u32 (c:Int)] w fun e d=>∃a b,e=.returned (.slice a 4 b)/\Made d w.heap.size 5 1 a 4 b ((rG c).map bv)/\Below w.heap.size w d:=by
 refine (aGX c w).mono fun e d ⟨m,g,j,f⟩=>?_;obtain ⟨a,b,rfl,i⟩:=aT j;exact ⟨a,b,g,i,f⟩
def aAT {b:Nat} {d c:Int} {a:Nat×Int} (f:d=(b:Int)) (e:a=(b,c)):Ending.returned (.tuple #[.int .u32 d,.int .i64 c])=Ending.returned (.tuple #[.int .u32 (a.1:Int),iv a.2]):=by subst e;subst f;rfl
def aKs (o:Option Addr) (d A:Nat) (l:List UInt8) (c:Int) (v:Nat) (w:World) (m:Rd w v 1 o d (l.map bv)) (F:d<=maxLen):
 Calls prog 45 #[.slice o d A,.int .i64 c] w fun B K=>B=.returned (.tuple #[.int .u32 ((ofB l c).1:Int),iv (ofB l c).2])/\w=K:=by
 unfold maxLen at F;have r:l.length=d:=by simpa using m.1
 obtain ⟨f,y⟩:=hqq2 r m;clear r m;by_cases j:c < 0
 · have b:ofB l c=(0,2):=(by rw [ofB,zBx (.inl j)]);have e:=lhd b;clear b;go_enter func45,ntmps45;go_wp2;go_ret2;exact ⟨aAT rfl e.out,rfl⟩
 by_cases q:(d:Int) < c
 · have b:ofB l c=(0,2):=(by rw [ofB,zBx (.inr (by rw [f.out];exact q))]);have e:=lhd b;clear b;go_enter func45,ntmps45;go_wp2;go_ret2;exact ⟨aAT rfl e.out,rfl⟩
 by_cases H:(d:Int) - c < 4
 · have b:ofB l c=(0,4):=(by rw [ofB,zBw (by rw [f.out];omega),zBx (by rw [f.out];omega)]);have e:=lhd b;clear b;go_enter func45,ntmps45;go_wp2;go_ret2;exact ⟨aAT rfl e.out,rfl⟩
 obtain ⟨a,rfl⟩:=Int.eq_ofNat_of_zero_le (Int.not_lt.1 j);have b:ofB l (a:Int)=(ofN l a 4,0):=by rw [ofB,zBw (by rw [f.out];omega),zBw (by rw [f.out];omega)];rfl
 have e:=lhd b;have M:a+4<=d:=oM;have O:decide ((a:Int) < 0)=false:=by simp
 have P:decide (d < a)=false:=by simp;omega
 have Q:decide ((d:Int) -(a:Int) < 4)=false:=by simp;omega
 clear b j q H;go_enter func45,ntmps45;go_wp2
 go_loop [6,23] (fun J n=>∃k:Nat,k<=4/\n=.int .i64 k/\J=.int .u32 (ofN l a k:Int)) (fun _ n=>4 -(intOf n).toNat)
 case atStart=>exact ⟨0,zAp _,rfl,rfl⟩
 case round=>
  obtain ⟨k,R,rfl,rfl⟩:=hrel;by_cases G:k < 4
  · obtain ⟨L,S,U,rfl,N,u,E⟩:=y.out.get (k:=a+k) oM;have i:∃g,l[a+k]?=some g:=⟨l[a+k]'(by have:=f.out;omega),zAa (by have:=f.out;omega)⟩;obtain ⟨g,i⟩:=i;simp only [zAf,i,Option.map_some,Option.some.injEq] at u;subst u;unfold bv at E;have t:ofN l a (k+1)=ofN l a k+g.toNat*256 ^ k:=(by rw [ofN,i];rfl);have s:=aJ4 l a k;obtain ⟨z,x⟩:=hqq2 t s;generalize ofN l a k=acc at*
    have I:g.toNat < 256:=g.toNat_lt;clear i t s;go_wp2;refine ⟨⟨k+1,by omega,by go_num,jO ?_⟩,by simp [intOf];omega⟩;rw [z.out];exact aGn acc g.toNat k x.out I G
  · have C:k=4:=oM;subst C;go_wp2;go_ret2;exact ⟨aAT rfl e.out,rfl⟩
def aKC (b:Option Addr) (a e:Nat) (l:List UInt8) (c:Int) (d:Nat) (w:World) (g:Nat) (k:Int) (j:ofB l c=(g,k)) (o:Rd w d 1 b a (l.map bv)) (m:a<=maxLen):
 Calls prog 45 #[.slice b a e,.int .i64 c] w fun f i=>f=.returned (.tuple #[.int .u32 (g:Int),.int .i64 k])/\w=i:=
 (aKs b a e l c d w o m).mono fun f i ⟨n,q⟩=>⟨by rw [n,j];rfl,q⟩
end
section
def aAR:(prog.info? 3).map (fun a=>(a.zero,a.size,a.bytes))=some (some (.int .i64 0),1,8):=by kernel_rfl
def aFV (b:List Int) (a:Int×Nat) (c:a∈bL b):a.1∈b:=by
 have e:=(aAg b).1 a c;have d:a.1∈eL (bL b):=List.mem_flatMap.2 ⟨a,c,List.mem_replicate.2 ⟨by omega,rfl⟩⟩;rwa [nC] at d
def aB3 {b:List Nat} (c:∀a∈b,a < 257):∀a∈bL (jA b),jL a.1:=by
 intro a d;obtain ⟨f,e,g⟩:=zAy.1 (aFV _ a d);have:=c f e;unfold jL;omega
def nO (a:List Nat):(jA a).length=a.length:=by simp [jA]
def aEu {a:List Nat} (b:∀c∈a,c < 257):qN (jA a)=some (gE a):=by
 unfold qN;rw [zBx (aB3 b)];rfl
def pP (a:List Nat):(gE a).length<=11+22*a.length:=by
 unfold gE;have d:=tP (bL (jA a));have c:=lJ (jA a);have e:=dL (bL (jA a)).length;rw [nO] at c;have b:eZ (bL (jA a))=cE (bL (jA a)).length++(bL (jA a)).flatMap cS:=by simp [eZ]
 rw [b,zAi];omega
def aAP (b:List Nat) (a k:Nat):List UInt8:=(List.range k).flatMap fun k=>cE (b.idxOf (k*a))
def sO (b:List Nat) (a k:Nat):aAP b a (k+1)=aAP b a k++cE (b.idxOf (k*a)):=by
 unfold aAP;rw [List.range_succ,List.flatMap_append];simp
def qJ (b:List Nat) (a k:Nat):(aAP b a k).length<=11*k:=by
 induction k with
 | zero=>simp [aAP]
 | succ k c=>
   rw [sO,zAi];have:=dL (b.idxOf (k*a));omega
def uT (c:List Nat) (a b:Nat):vO c a b=aAP c a (b / a+1):=rfl
def aI4 (b:List Nat) (a k:Nat):k<=(aAP b a k).length:=by
 induction k with
 | zero=>simp
 | succ k c=>
   rw [sO,zAi];have:=aIj (b.idxOf (k*a));omega
def aJ8 {k a b:Nat} (f:1<=a) (e:k<=b / a+1) (c:¬k*a<=b):k=b / a+1:=by
 have d:b / a < k:=(Nat.div_lt_iff_lt_mul oM).2 oM;omega
def aJ5 {k a b:Nat} (d:1<=a) (c:k*a<=b):k+1<=b / a+1:=by
 have:=(Nat.le_div_iff_mul_le oM).2 c;omega
end
section
open Go.RowKit
def aFR (a:Int) (w:World) (c:jL a):Calls prog 98 #[.int .i64 a] w fun b d=>b=.returned (.bool true)/\w=d:=by
 obtain ⟨e,f⟩:=c;go_enter func98,ntmps98;go_wp2;go_ret;exact ⟨cO (by simp <;> omega),rfl⟩
def aHh (a:Int) (w:World) (c:¬jL a):Calls prog 98 #[.int .i64 a] w fun b f=>b=.returned (.bool false)/\w=f:=by
 have d:a < 0∨(0<=a/\257<=a):=by unfold jL at c;omega
 rcases d with e |⟨e,g⟩
 · go_enter func98,ntmps98;go_wp2;go_ret;exact ⟨cO (by simp <;> omega),rfl⟩
 · go_enter func98,ntmps98;go_wp2;go_ret;exact ⟨cO (by simp <;> omega),rfl⟩
def aJE (w f:World) (e:Option (List UInt8)) (d:Ending):Prop:=
 (∃a b c,e=some a/\d=.returned (.tuple #[.slice b a.length c,.int .i64 0])/\Made f w.heap.size 5 1 b a.length c (a.map bv))∨
 (e=none/\d=.returned (.tuple #[.slice none 0 0,.int .i64 1]))
def aEU (P:Option Addr) (z ay Q:Nat) (l:List Int) (w:World) (K:Rd w Q 1 P z (l.map iv)) (aG:Q<=w.heap.size) (bc:z<=1000000):
 Calls prog 38 #[.slice P z ay] w fun n af=>aJE w af (qN l) n/\Below w.heap.size w af:=by
 obtain ⟨b1,aK,aX,aY,b0⟩:=info_parts kE;have aN:l.length=z:=by simpa using K.1
 obtain ⟨a,s⟩:=eqx (bL l);obtain ⟨b,a6⟩:=eqx a.length;have bd:b<=1000000:=by have:=lJ l;rw [s] at this;omega
 have X:∀c∈a,c.2<=1000000:=fun c d=>by have:=pD l c (by rw [s];exact d);omega
 have ak:=lhd X;have a9:qN l=if ∀c∈a,jL c.1 then some (eZ a) else none:=by unfold qN;rw [s]
 obtain ⟨R,ax,m,av⟩:=hqq4 a9 s a6 K;have b6:=Below.refl w.heap.size w;clear K aN s a6 a9 X;go_enter func38,ntmps38;go_wp2_with fail;refine (aII _ _ _ _ l _ a b ax.out m.out av.out aG oM).mono ?_;rintro n w1 ⟨A,C,rfl,a1,G⟩;have aS:=G.size;have ar:=lhd a1.own;clear a1;obtain ⟨k0,I⟩:=eqx ((cE b).length);have ba:k0<=11:=by rw [<-I];exact dL b
 have an:=lhd I;clear I;go_wp2_with fail;refine (yD _ _ _ _ [b] _ (cE b) k0 (pQ b) an.out (Rd.made _ _ 1 1 _ rfl) nL (by simp;omega) oM).mono ?_;rintro n N ⟨ai,aA,rfl,a2,u⟩;have U:=(G.alloc aS _).trans (u.mono (by simp;omega));have bg:=U.size;have bf:w1.heap.size < N.heap.size:=by have:=u.size;simp at this;omega
 have aO:N.ownsRow w.heap.size 5 1 (.slice ai k0 aA) k0 ((cE b).map bv):=cB a2.own (by simp;omega);have g:N.ownsRow w.heap.size 139 2 (.slice A b C) b (cJ a):=aR (ar.out.alloc _) u;clear a2 u G;go_wp2_with fail;go_loopw [5,17] (fun b3 M wr=>∃k i:Nat,k<=b/\M=.int .i64 k/\wr.ownsRow w.heap.size 5 1 b3 i ((cE b++(a.take k).flatMap cS).map bv)/\wr.ownsRow w.heap.size 139 2 (.slice A b C) b (cJ a)/\Below w.heap.size w wr/\∀c∈a.take k,jL c.1) (fun _ M _=>b -(intOf M).toNat)
 case atStart=>exact ⟨0,k0,zAp _,rfl,by simpa using aO,g,U,by simp⟩
 case round=>
  obtain ⟨k,i,b9,rfl,r,g,t,a8⟩:=hrel;have B:=lhd a8;have ac:=t.size;have be:i<=22000011:=by have F:=r.1;have S:=tP (a.take k);have aE:=dL b;rw [zAj] at S;simp only [zBc,zAi] at F;omega
  clear a8;by_cases a0:k < b
  · obtain ⟨c,d⟩:∃c,a[k]?=some c:=⟨a[k]'(by have:=m.out;omega),zAa (by have:=m.out;omega)⟩;obtain ⟨f,aF,b8⟩:∃f,A=some ⟨f,0,none⟩/\f < wr.heap.size:=(by obtain ⟨f,b5,aU,_,a0⟩:=g.form oM;injection aU with F S aE;exact ⟨f,F,a0⟩);subst aF;have aC:wr.cell? ⟨f,k*2,none⟩=some (.int .i64 c.1):=(g.cellAt (k*2) oM).trans ((jC a k 0 c d oM).trans rfl);have aD:wr.cell? ⟨f,k*2+1,none⟩=some (.int .i64 (c.2:Int)):=(g.cellAt (k*2+1) oM).trans ((jC a k 1 c d oM).trans rfl);have a7:=yP a k c d;have aV:=ak.out c (zAd d);have Z:∀e∈a.take (k+1),e∈a.take k∨e=c:=(by intro e ae;have aL:k < a.length:=(zAc.1 d).1;rw [List.take_succ_eq_append_getElem aL,(zAc.1 d).2] at ae;simpa using ae);have a5:=zAd d;obtain ⟨b2,e⟩:=c;simp only at aC aD aV;obtain ⟨aq,am,ap⟩:=hqq3 a7 Z a5;clear a7 d Z a5;by_cases o:jL b2
    · obtain ⟨j,rfl⟩:=Int.eq_ofNat_of_zero_le o.1;have bh:(j:Int) < 257:=o.2;have q:=lhd o;clear o;obtain ⟨y,J⟩:=eqx ((cS ((j:Int),e)).length);have bb:y<=22:=(by rw [<-J];exact tK _);have ao:=lhd J;have Y:dS [j,e]=cS ((j:Int),e):=(by simp [dS,cS]);have al:=lhd Y;clear J Y;go_wp2_with (go_at_call 98;refine (aFR _ _ q.out).mono ?_;rintro n b4 ⟨rfl,rfl⟩);refine (yD _ _ _ _ [j,e] _ (cS ((j:Int),e)) y al.out ao.out (Rd.made' _ _ 1 2 _ _ rfl (by simp)) nL (by simp;omega) oM).mono ?_;rintro n O ⟨aj,aB,rfl,a4,v⟩;have V:=((t.alloc ac _).alloc (by simp;omega) _).trans (v.mono (by simp;omega));have ab:=V.size;have x:O.ownsRow w.heap.size 5 1 u5 i ((cE b++(a.take k).flatMap cS).map bv):=aR ((r.alloc _).alloc _) v;have L:O.ownsRow w.heap.size 139 2 (.slice (some ⟨f,0,none⟩) b C) b (cJ a):=aR ((g.alloc _).alloc _) v;have aw:=lhd a4.rd;have au:=lhd (lP (cS ((j:Int),e)));clear a4 v r g;go_wp2_with (at_builtin;refine bY _ rfl (.tmp 25) (.tmp 33) _ rfl w.heap.size 5 b1 (.int .u8 0) 1 1 underlying26 aK aX aY b0 rfl dC u5 i _ rfl x O.heap.size aj y aB _ rfl aw.out au.out (by unfold maxLen;omega) oM ab ?_;intro bi bj aP H aJ);have aH:=aZ V x H ab;have aQ:=L.kept H (aEh L x dC);clear H aJ L x;go_roundw
      case rel=>refine ⟨k+1,i+y,by omega,by go_num,?_,aQ,aH,?_⟩;rw [aq.out,<-zCo,zAz];exact aP;intro ag aW;rcases am.out ag aW with E | E;exact B.out ag E;rw [E];exact q.out
      case measure=>simp [intOf];omega
    · have q:=lhd o;clear o;go_wp2_with (go_at_call 98;refine (aHh _ _ q.out).mono ?_;rintro n b4 ⟨rfl,rfl⟩);go_ret2;refine ⟨.inr ⟨?_,rfl⟩,t.alloc ac _⟩;rw [R.out,zBw];intro aI;exact q.out (aI _ ap.out)
  · have aM:k=b:=oM;have b7:b<=k:=oM;have ad:a.take k=a:=zAg (by have:=m.out;omega);rw [ad] at r B;clear aM ad g;obtain ⟨ah,az,rfl,a3⟩:=aT r;go_wp2;go_ret2;have aa:(eZ a).length=i:=(by have:=a3.len;rw [zBc] at this;rw [<-this,eZ,m.out]);refine ⟨.inl ⟨eZ a,ah,az,?_,?_,?_⟩,t⟩
    · rw [R.out,zBx B.out]
    rw [aa];rfl;rw [aa,eZ,m.out];exact a3
def aBR (w e:World) (a:List Int×Int) (d:Ending):Prop:=
 ∃b c,d=.returned (.tuple #[.slice b a.1.length c,.int .i64 a.2])/\Made e w.heap.size 3 1 b a.1.length c (a.1.map iv)
def gM {w c:World} {a:List Int×Int} {k:Int} (b:([],k)=a):aBR w c a (.returned (.tuple #[.slice none 0 0,.int .i64 k])):=by
 subst b;exact ⟨none,0,rfl,⟨World.ownsRow_nil _ _ _ _,Rd.nil _ _ _ _,zAs _,zAp _⟩⟩
def uB (a4:Option Addr) (t V:Nat) (d:List UInt8) (most:Int) (w:World) (H:TypeInfo) (aD:prog.info? 3=some H) (aI:H.zero=some (.int .i64 0)) (aJ:H.size=1) (aK:H.bytes=8)
 (E:Hid (d.length=t)) (a8:Hid (Rd w w.heap.size 1 a4 t (d.map bv))) (av:Below w.heap.size w w) (i:t<=V) (g:V<=maxLen) (u:List Int×Int) (U I:Nat) (ax:I<=t)
 (an:Hid (eJ d 0=(U,(I:Int),0))) (aq:Hid (U < 18446744073709551616)) (e:Nat) (ao:Hid (rgo d e U I 257 []=u)) (aY:e<=1099511627776) (ac:most=(e:Int)∨(most < 0/\e<=0)):
 Calls prog 48 #[.slice a4 t V,.int .i64 most] w fun a al=>aBR w al u a/\Below w.heap.size w al:=by
 have a6:=lhd ac;clear ac;go_enter func48,ntmps48;go_wp2_with (go_at_call 104;refine (fF _ _ _ _ _ _ _ _ _ _ an.out a8.out i g).mono ?_;rintro a n ⟨rfl,rfl⟩);go_loopw [6,7,9,10] (fun a3 aM a2 aN wr=>∃(r o s:Nat) (m:List Int),a3=.int .u64 (r:Int)/\aM=.int .i64 (o:Int)/\aN=.int .u64 (s:Int)/\wr.ownsRow w.heap.size 3 1 a2 m.length (m.map iv)/\m.length<=e/\o<=t/\r < 18446744073709551616/\rgo d e r o s m=u/\Below w.heap.size w wr) (fun a3 _ _ _ _=>(intOf a3).toNat)
 case atStart=>exact ⟨U,I,257, [],rfl,rfl,rfl,World.ownsRow_nil _ _ _ _,zAp _,ax,aq.out,ao.out,av⟩
 case round=>
  obtain ⟨r,o,s,m,rfl,rfl,rfl,F,ay,aw,ag,ad,q⟩:=hrel;obtain ⟨z,ap⟩:=hqq2 ad ag;have b1:=q.size;have ah:=a8.out.below q;have j:=lhd ah;clear ad ag ah;rcases r with _ | r
  · have aU:((0:Nat):Int)=0:=rfl;by_cases N:o=t
    · have c:(m,0)=u:=(by rw [<-z.out,rgo,zBx (by rw [E.out];exact N)]);have f:=lhd c;have a0:((o:Int)==(t:Int))=true:=(by rw [zCq];omega);obtain ⟨a5,ab,rfl,Z⟩:=aT F;clear N c F;go_wp2;go_ret2;refine ⟨?_,q⟩;rw [<-f.out];exact ⟨a5,ab,rfl,Z⟩
    · have c:([],4)=u:=(by rw [<-z.out,rgo,zBw (by rw [E.out];exact N)]);have f:=lhd c;have a0:((o:Int)==(t:Int))=false:=(by rw [zCb];omega);clear N c;go_wp2;go_ret2;exact ⟨gM f.out,q⟩
  · have G:o<=d.length:=(by rw [E.out];exact aw);rcases h1:eK (d.drop o) true 0 o with _ |⟨b,C⟩
    · have c:([],4)=u:=(by rw [<-z.out,aCn _ _ _ _ _ _ (aCf _ _ h1)]);obtain ⟨f,x⟩:=hqq2 c (pM d o G h1);clear c G h1;go_wp2_with (go_at_call 104;refine (fF _ _ _ _ _ _ _ _ _ _ x.out j.out i g).mono ?_;rintro a n ⟨rfl,rfl⟩);go_ret2;exact ⟨gM f.out,q⟩
    · have P:=wT _ _ _ _ _ _ h1;have A:=pK d o b C G h1;have aH:C<=t:=(by rw [zAw,E.out] at P;omega);have S:C<=d.length:=(by rw [E.out];exact aH);obtain ⟨x,aP⟩:=hqq2 A P.2.2;rcases h2:eK (d.drop C) true 0 C with _ |⟨k,a⟩
      · have c:([],4)=u:=(by rw [<-z.out,aCn _ _ _ _ _ _ (aCe _ _ _ _ h1 h2)]);obtain ⟨f,y⟩:=hqq2 c (pM d C S h2);clear c G h1 h2 A P S;go_wp2_with fail;refine (fF _ _ _ _ _ _ _ _ _ _ x.out j.out i g).mono ?_;rintro a n ⟨rfl,rfl⟩;go_wp2_with fail;refine (fF _ _ _ _ _ _ _ _ _ _ y.out j.out i g).mono ?_;rintro a n ⟨rfl,rfl⟩;go_wp2;go_ret2;exact ⟨gM f.out,q⟩
      · have Y:=wT _ _ _ _ _ _ h2;have K:=pK d C k a S h2;have aB:a<=t:=(by rw [zAw,E.out] at Y;omega);have y:=lhd K;have ai:rgo d e (r+1) o s m=if 257<=b∨b=s∨k=0 then ([],4) else if e - m.length < k then ([],3) else rgo d e r a b (m++List.replicate k (b:Int)):=aCm _ _ _ _ _ _ _ _ _ (vS _ _ _ _ _ _ h1 h2);obtain ⟨a9,aO⟩:=hqq2 ai Y.2.2;clear G h1 h2 A P S K Y ai;by_cases L:257<=b∨b=s∨k=0
        · have c:([],4)=u:=(by rw [<-z.out,a9.out,zBx L]);have f:=lhd c;have aA:257<=b∨(b < 257/\b=s)∨(b < 257/\b≠s/\k=0):=oM;clear c L;rcases aA with J |⟨J,X⟩|⟨J,X,au⟩
          · go_wp2_with fail;refine (fF _ _ _ _ _ _ _ _ _ _ x.out j.out i g).mono ?_;rintro a n ⟨rfl,rfl⟩;go_wp2_with fail;refine (fF _ _ _ _ _ _ _ _ _ _ y.out j.out i g).mono ?_;rintro a n ⟨rfl,rfl⟩;go_wp2;go_ret2;exact ⟨gM f.out,q⟩
          · subst X;go_wp2_with fail;refine (fF _ _ _ _ _ _ _ _ _ _ x.out j.out i g).mono ?_;rintro a n ⟨rfl,rfl⟩;go_wp2_with fail;refine (fF _ _ _ _ _ _ _ _ _ _ y.out j.out i g).mono ?_;rintro a n ⟨rfl,rfl⟩;go_wp2;go_ret2;exact ⟨gM f.out,q⟩
          · subst au;have a0:((b:Int)==(s:Int))=false:=(by rw [zCb];omega);clear X;go_wp2_with fail;refine (fF _ _ _ _ _ _ _ _ _ _ x.out j.out i g).mono ?_;rintro a n ⟨rfl,rfl⟩;go_wp2_with fail;refine (fF _ _ _ _ _ _ _ _ _ _ y.out j.out i g).mono ?_;rintro a n ⟨rfl,rfl⟩;go_wp2;go_ret2;exact ⟨gM f.out,q⟩
        · have aQ:b < 257:=oM;have aX:0 < k:=oM;have b2:((k:Int)==0)=false:=(by rw [zCb];omega);have b3:decide ((257:Int)<=(b:Int))=false:=(by simp;omega);have a0:((b:Int)==(s:Int))=false:=(by rw [zCb];omega);obtain ⟨B,R⟩:=eqx m.length;have aj:rgo d e (r+1) o s m=if e - B < k then ([],3) else rgo d e r a b (m++List.replicate k (b:Int)):=(by rw [a9.out,zBw L,R]);obtain ⟨aa,a7⟩:=hqq2 aj R;rw [R] at F ay;obtain ⟨a5,ab,rfl,Z⟩:=aT F;have ar:=lhd F;have aF:=ap.out;have aE:∃aL:Int,aL=(e:Int) -(B:Int):=⟨_,rfl⟩;clear L aj R Z F aE;by_cases O:e - B < k
          · have c:([],3)=u:=(by rw [<-z.out,aa.out,zBx O]);have f:=lhd c;have aC:(e:Int) -(B:Int) < (k:Int):=oM;clear c O aF;rcases a6.out with M |⟨M,aR⟩
            · subst M;go_wp2_with fail;refine (fF _ _ _ _ _ _ _ _ _ _ x.out j.out i g).mono ?_;rintro a n ⟨rfl,rfl⟩;go_wp2_with fail;refine (fF _ _ _ _ _ _ _ _ _ _ y.out j.out i g).mono ?_;rintro a n ⟨rfl,rfl⟩;go_wp2;go_ret2;exact ⟨gM f.out,q⟩
            · go_wp2_with fail;refine (fF _ _ _ _ _ _ _ _ _ _ x.out j.out i g).mono ?_;rintro a n ⟨rfl,rfl⟩;go_wp2_with fail;refine (fF _ _ _ _ _ _ _ _ _ _ y.out j.out i g).mono ?_;rintro a n ⟨rfl,rfl⟩;go_wp2;go_ret2;exact ⟨gM f.out,q⟩
          · have c:rgo d e r a b (m++List.replicate k (b:Int))=u:=(by rw [<-z.out,aa.out,zBw O]);have f:=lhd c;have aC:(k:Int)<=(e:Int) -(B:Int):=oM;have M:most=(e:Int):=(by rcases a6.out with J |⟨_,J⟩<;> omega);subst M;clear c O;go_wp2_with fail;refine (fF _ _ _ _ _ _ _ _ _ _ x.out j.out i g).mono ?_;rintro a n ⟨rfl,rfl⟩;go_wp2_with fail;refine (fF _ _ _ _ _ _ _ _ _ _ y.out j.out i g).mono ?_;rintro a n ⟨rfl,rfl⟩;go_wp2;go_loopw [9,73] (fun a2 a1 am=>∃v:Nat,v<=k/\a1=.int .u64 (v:Int)/\am.ownsRow w.heap.size 3 1 a2 (B+v) ((m++List.replicate v (b:Int)).map iv)/\Below w.heap.size w am) (fun _ a1 _=>k -(intOf a1).toNat)
            case atStart=>exact ⟨0,zAp _,rfl,by simpa using ar.out,q⟩
            case round=>
             obtain ⟨v,aV,rfl,Q,A⟩:=hrel;have ak:=A.size;by_cases aW:v < k
             · go_wp2_with (at_builtin;refine bO _ rfl (.tmp 75) (.tmp 78) _ rfl w.heap.size 3 H (.int .i64 0) 1 8 underlying22 aD aI aJ aK rfl dC u9 (B+v) _ rfl Q rfl rfl (by simp [Value.oneCell']) (by unfold maxLen;omega) oM ak ?_;intro b4 b5 aG ae b0 az);have K:=aZ A Q ae ak;clear ae az;go_roundw
               case rel=>refine ⟨v+1,by omega,by go_num,?_,K⟩;rw [List.replicate_succ',<-zCo,zAz];exact aG
               case measure=>simp [intOf];omega
             · have af:v=k:=oM;have aS:k<=v:=oM;rw [af] at Q;clear af;go_wp2;refine ⟨⟨r,a,b,m++List.replicate k (b:Int),jO oM,rfl,rfl,?_,?_,aB,by omega,f.out,A⟩,by simp [intOf]⟩;rw [zAi,zCn,a7.out];exact Q;rw [zAi,zCn,a7.out];omega
def aEV (n:Option Addr) (c f z:Nat) (a:List UInt8) (most:Int) (w:World) (r:Rd w z 1 n c (a.map bv)) (O:z<=w.heap.size) (y:c<=f) (v:f<=maxLen) (Q:most<=1099511627776) (R:-9223372036854775808<=most):
 Calls prog 48 #[.slice n c f,.int .i64 most] w fun C N=>aBR w N (lT a most) C/\Below w.heap.size w N:=by
 obtain ⟨M,F,J,K,L⟩:=info_parts aAR;have x:a.length=c:=by simpa using r.1
 obtain ⟨A,s⟩:=hqq2 x (r.mono O);have t:=Below.refl w.heap.size w;obtain ⟨q,j⟩:=eqx (lT a most);rw [j];rcases hfirst:eK a true 0 0 with _ |⟨m,d⟩
 · have g:eJ a 0=(0,0,4):=pM a 0 (zAp _) (by simpa using hfirst);have i:([],4)=q:=(by rw [<-j,lT,hfirst]);obtain ⟨o,e⟩:=hqq2 g i;clear r x j g i hfirst;go_enter func48,ntmps48;go_wp2_with (go_at_call 104;refine (fF _ _ _ _ _ _ _ _ _ _ o.out s.out y v).mono ?_;rintro C V ⟨rfl,rfl⟩)
   go_loop [6] (fun U=>U=.int .u64 0) (fun _=>0)
   case atStart=>rfl
   case round=>subst hrel;go_wp2;go_ret2;exact ⟨gM e.out,t⟩
 have G:=wT _ _ _ _ _ _ hfirst;have g:eJ a 0=(m,(d:Int),0):=pK a 0 m d (zAp _) (by simpa using hfirst);have i:rgo a most.toNat m d 257 []=q:=(by rw [<-j,lT,hfirst]);have E:d<=c:=oM;obtain ⟨o,e,B⟩:=hqq3 g i G.2.2;obtain ⟨b,I⟩:∃b:Nat,most.toNat=b:=⟨_,rfl⟩;rw [I] at e;have H:b<=1099511627776:=oM;have u:most=(b:Int)∨(most < 0/\b<=0):=oM;clear r x j g i hfirst G I Q R;rcases u with u |⟨S,P⟩;subst u;exact uB n c f a (b:Int) w M F J K L A s t y v q m d E o B b e H (.inl rfl);exact uB n c f a most w M F J K L A s t y v q m d E o B b e H (.inr ⟨S,P⟩)
def aGN (e:Option Addr) (d b f:Nat) (g:List UInt8) (most:Int) (w:World) (l:List Int) (i:Nat) (k:Int) (q:lT g most=(l,k)) (y:l.length=i) (z:Rd w f 1 e d (g.map bv)) (r:f<=w.heap.size) (u:d<=b) (t:b<=maxLen) (v:most<=1099511627776) (x:-9223372036854775808<=most):
 Calls prog 48 #[.slice e d b,.int .i64 most] w fun m j=>∃a c,m=.returned (.tuple #[.slice a i c,.int .i64 k])/\Made j w.heap.size 3 1 a i c (l.map iv)/\Below w.heap.size w j:=by
 subst y;refine (aEV e d b f g most w z r u t v x).mono fun m j ⟨⟨a,c,n,o⟩,s⟩=>?_;rw [q] at n o;exact ⟨a,c,n,o,s⟩
end
section
def aAj {a b:Nat} (c:a≠b):((a:Int)==(b:Int))=false:=by rw [zCb];omega
def aCz {a b:List Nat} {k c:Nat} (e:a.length=c) (f:b.length=c) (d:a.take k=b.take k) (g:c<=k):a=b:=by
 rw [zAg oM,zAg oM] at d;exact d
end
section
open Go.RowKit
def aCA:(prog.info? 3).map (fun a=>(a.zero,a.size,a.bytes))=some (some (.int .i64 0),1,8):=by kernel_rfl
def iP {w:World} {d c:Nat} {a:Option Addr} {l:List UInt8} (e:Rd w d 1 a c (l.map bv)):∀b,(convert 26 9 (.slice a c b)).run prog w=.ok (.string ⟨l.toArray⟩) w:=
 fun b=>lK (P:=prog) 26 9 5 underlying26 underlying5 underlying9 e
def Rd.keepF {g:Nat->Prop} {w e:World} {f q c:Nat} {a:Option Addr} {r:List Value} (m:Rd w f q a c r) (k:Keep g w e) (x:f<=w.heap.size) (t:0 < c->∀i,a=some i->¬g i.block):Rd e e.heap.size q a c r:=
 ⟨m.1,fun n=>by
   obtain ⟨b,d,j,y,s⟩:=m.2 n;exact ⟨b,d,j,by have:=k.size;omega,fun o v u=>(k.cell (p:=⟨b,d+o,none⟩) (by simp only;omega) (by exact t n ⟨b,d,none⟩ j)).trans (s o v u)⟩⟩
def sU (l:List UInt8) (a b:Nat):(⟨l.toArray⟩:ByteArray).extract a b=⟨((l.drop a).take (b - a)).toArray⟩:=by
 apply ByteArray.ext;rw [ByteArray.data_extract];apply Array.ext';rw [Array.toList_extract]
def aS (l:List UInt8):(⟨l.toArray⟩:ByteArray).size=l.length:=by simp [ByteArray.size]
section
variable (l : List UInt8) (w : World)
def mX (a b:Nat) (c:a<=b) (d:b<=l.length):(Instr.slice 9 (.string ⟨l.toArray⟩) (some (.int .i64 (a:Int))) (some (.int .i64 (b:Int))) none).run prog w=.ok (.string ⟨((l.drop a).take (b - a)).toArray⟩) w:=by
 rw [run_slice_string (P:=prog) (w:=w) 9 ⟨l.toArray⟩ .i64 .i64 a b underlying9 oM oM (by rw [aS];omega)];rw [zBr,zBr,sU]
def aAK (a:Nat) (b:a<=l.length):(Instr.slice 9 (.string ⟨l.toArray⟩) none (some (.int .i64 (a:Int))) none).run prog w=.ok (.string ⟨(l.take a).toArray⟩) w:=by
 rw [run_slice_string_h (P:=prog) (w:=w) 9 ⟨l.toArray⟩ underlying9 .i64 a oM (by rw [aS];omega)];rw [zBr,sU];simp
def aAJ (a:Nat) (b:a<=l.length):(Instr.slice 9 (.string ⟨l.toArray⟩) (some (.int .i64 (a:Int))) none none).run prog w=.ok (.string ⟨(l.drop a).toArray⟩) w:=by
 rw [run_slice_string_l (P:=prog) (w:=w) 9 ⟨l.toArray⟩ underlying9 .i64 a oM (by rw [aS];omega)];rw [zBr,sU,aS];congr 3;apply congrArg;rw [zAg (by rw [zAw];omega)]
def wK (a b:Nat) (c:a<=b) (d:b<=l.length):(Instr.sliceAt 9 (.string ⟨l.toArray⟩) (some (.int .i64 (a:Int))) (some (.int .i64 (b:Int))) none).run prog w=.ok (.string ⟨((l.drop a).take (b - a)).toArray⟩) w:=by
 rw [run_sliceAt_string (h:=underlying9),mX l w a b c d]
def aID (a:Nat) (b:a<=l.length):(Instr.sliceAt 9 (.string ⟨l.toArray⟩) none (some (.int .i64 (a:Int))) none).run prog w=.ok (.string ⟨(l.take a).toArray⟩) w:=by
 rw [run_sliceAt_string (h:=underlying9),aAK l w a b]
def aIC (a:Nat) (b:a<=l.length):(Instr.sliceAt 9 (.string ⟨l.toArray⟩) (some (.int .i64 (a:Int))) none none).run prog w=.ok (.string ⟨(l.drop a).toArray⟩) w:=by
 rw [run_sliceAt_string (h:=underlying9),aAJ l w a b]
end
def aEe (c a:List UInt8):(c.take a.length==a)=a.isPrefixOf c:=by
 rw [Bool.eq_iff_iff];simp only [zCq,List.isPrefixOf_iff_prefix];constructor;intro b;rw [<-b];exact List.take_prefix _ _;intro b;exact (List.prefix_iff_eq_take.1 b).symm
def oQ (b p:List UInt8) (a c f d:Nat) (w:World) (j:b.length=f) (e:p.length=d) (s:a+d=c) (q:c<=f) (r:f<=1099511627776):
 Calls prog 136 #[.string ⟨b.toArray⟩,(a:Int),.string ⟨p.toArray⟩] w fun m n=>m=.returned (.bool (p.isPrefixOf (b.drop a)))/\w=n:=by
 have x:(⟨b.toArray⟩:ByteArray).size=f:=(aS b).trans j;have y:(⟨p.toArray⟩:ByteArray).size=d:=(aS p).trans e;have u:=fun w=>mX b w a c oM oM;have v:=fun w=>wK b w a c oM oM;have t:(a:Int)+(d:Int)=(c:Int):=oM;have i:((b.drop a).take (c - a)==p)=p.isPrefixOf (b.drop a):=by rw [<-aEe,e,show c - a=d by omega]
 obtain ⟨g,o⟩:=hqq2 i e;clear e j i;go_enter func136,ntmps136;go_wp2;go_ret;exact ⟨cO (by first | exact g.out |(simp [<-g.out])),rfl⟩
def yE (a p:List UInt8) (c b:Nat) (j:List Nat) (t:Nat) (w:World) (o:a.length=c) (d:p.length=b) (A:fH a p=j) (B:j.length=t) (a4:c<=549755813888) (a3:b<=549755813888):
 Calls prog 78 #[.string ⟨a.toArray⟩,.string ⟨p.toArray⟩] w fun u r=>∃g m,u=.returned (.slice g t m)/\Made r w.heap.size 3 1 g t m (j.map nv)/\Below w.heap.size w r:=by
 obtain ⟨Y,P,U,V,X⟩:=info_parts aCA;have a8:(⟨a.toArray⟩:ByteArray).size=c:=(aS a).trans o;have a9:(⟨p.toArray⟩:ByteArray).size=b:=(aS p).trans d;have C:∀k:Nat,k<=c+1 - b->¬(k+b<=c)->gT a p k=j:=fun k a1 a2=>by rw [<-A,fH,o,d];congr 1;omega
 obtain ⟨K,J,z,y⟩:=hqq4 C B o d;clear A B C o d;go_enter func78,ntmps78;go_wp2;go_loopw [5,6] (fun a0 x wr=>∃k:Nat,k<=c+1 - b/\x=.int .i64 k/\wr.ownsRow w.heap.size 3 1 a0 (gT a p k).length ((gT a p k).map nv)/\Below w.heap.size w wr) (fun _ x _=>c+1 -(intOf x).toNat)
 case atStart=>exact ⟨0,zAp _,rfl,World.ownsRow_nil _ _ _ _,Below.refl _ _⟩
 case round=>
  obtain ⟨k,Q,rfl,f,n⟩:=hrel;have H:=n.size;by_cases R:k+b<=c
  · have F:=aAn a p k;have O:decide ((k:Int)+(b:Int)<=(c:Int))=true:=(by simp;omega);obtain ⟨I,G⟩:=eqx (k+b);have i:=lhd f;clear f;cases q:p.isPrefixOf (a.drop k) with
    | true=>
      have e:=aEv a p k q;have s:=lhd e;obtain ⟨Z,v⟩:=eqx ((gT a p k).length);rw [v] at F i;have L:=lhd v;clear e v;go_wp2_with fail;refine (oQ a p k I c b _ z.out y.out G oM oM).mono ?_;rintro u r ⟨rfl,rfl⟩;rw [q];go_wp2_with (at_builtin;refine bO _ rfl (.tmp 20) (.tmp 22) _ rfl w.heap.size 3 Y (.int .i64 0) 1 8 underlying22 P U V X rfl dC _ Z _ rfl i.out rfl rfl (by simp [Value.oneCell']) (by unfold maxLen;omega) oM H ?_;intro a6 a7 S E a5 M);have N:=aZ n i.out E H;clear E M;go_roundw
      case rel=>refine ⟨k+1,by omega,by go_num,?_,N⟩;rw [s.out,zAi,L.out,zAz];exact S
      case measure=>simp [intOf];omega
    | false=>
      have e:=aAm a p k q;have s:=lhd e;clear e F;go_wp2_with fail;refine (oQ a p k I c b _ z.out y.out G oM oM).mono ?_;rintro u r ⟨rfl,rfl⟩;rw [q];go_wp2;go_roundw
      case rel=>refine ⟨k+1,by omega,by go_num,?_,n⟩;rw [s.out];exact i.out
      case measure=>simp [intOf];omega
  · have O:decide ((k:Int)+(b:Int)<=(c:Int))=false:=(by simp;omega);rw [K.out k Q R,J.out] at f;obtain ⟨g,m,rfl,d⟩:=aT f;clear f;go_wp2;go_ret;exact ⟨g,m,rfl,d,n⟩
def wJ (B C:Option Addr) (a O e P J K:Nat) (b c:List Nat) (w:World) (o:Rd w J 1 B a (b.map nv)) (q:Rd w K 1 C e (c.map nv)) (a2:a<=1099511627776) (a3:e<=1099511627776):
 Calls prog 15 #[.slice B a O,.slice C e P] w fun S Y=>S=.returned (.bool (decide (b=c)))/\Below w.heap.size w Y:=by
 have H:b.length=a:=by simpa using o.1
 have I:c.length=e:=by simpa using q.1
 obtain ⟨L,M,f,g⟩:=hqq4 o q H I;clear o q H I;by_cases r:a=e
 · subst r;go_enter func15,ntmps15;go_wp2;go_loopw [5] (fun y wr=>∃k:Nat,k<=a/\y=.int .i64 k/\b.take k=c.take k/\∃V,wr=w.drewN V) (fun y _=>a -(intOf y).toNat)
   case atStart=>exact ⟨0,zAp _,rfl,rfl,0,rfl⟩
   case round=>
    obtain ⟨k,a1,rfl,j,a4,rfl⟩:=hrel;by_cases G:k < a
    · obtain ⟨z,u⟩:∃z,b[k]?=some z:=⟨b[k]'(by have:=f.out;omega),zAa (by have:=f.out;omega)⟩;obtain ⟨A,x⟩:∃A,c[k]?=some A:=⟨c[k]'(by have:=g.out;omega),zAa (by have:=g.out;omega)⟩;obtain ⟨b1,a5,a7,rfl,Z,s,Q⟩:=L.out.get G;obtain ⟨b2,a6,a8,rfl,a0,t,R⟩:=M.out.get G;rw [zAf,u] at s;rw [zAf,x] at t;simp only [Option.map_some,Option.some.injEq] at s t;subst s;subst t;unfold nv iv at Q R;obtain ⟨N,E,F⟩:=hqq3 j u x;clear j u x;by_cases v:z=A
      · subst v;go_wp2;go_quiet (fail);go_wp2;go_roundw
        case rel=>refine ⟨k+1,by omega,by go_num,?_,_,rfl⟩;rw [zAv,zAv,N.out,E.out,F.out]
        case measure=>simp [intOf];omega
      · have X:=aAj v
        have d:b≠c:=fun n=>v (by
         have i:=E.out;rw [n,F.out] at i;injection i with i;exact i.symm)
        have m:=lhd d;clear d;go_wp2;go_quiet (fail);go_wp2;go_ret;exact ⟨cO (by rw [zBy m.out]),below_drewN (below_drewN bR _) _⟩
    · have U:a<=k:=oM;have d:=lhd (aCz f.out g.out j U);clear j;go_wp2;go_ret;exact ⟨cO (by rw [zBz d.out]),below_drewN bR _⟩
 · have d:b≠c:=fun n=>r (by rw [<-f.out,<-g.out,n]);have m:=lhd d;have X:=aAj r;clear d;go_enter func15,ntmps15;go_wp2;go_ret;exact ⟨cO (by rw [zBy m.out]),Below.refl _ _⟩
def uA (g i j m:Int) (x y z A:Option Addr) (Q Y R Z t a0 u a1 B C E F:Nat) (n o:List UInt8) (r s:List Nat) (w:World) (L:Rd w B 1 x Q (n.map bv)) (M:Rd w C 1 y R (o.map bv)) (N:Rd w E 1 z t (r.map nv)) (O:Rd w F 1 A u (s.map nv))
 (b1:B<=w.heap.size) (b2:C<=w.heap.size) (I:E<=w.heap.size) (J:F<=w.heap.size) (a3:t<=1099511627776) (a4:u<=1099511627776):
 Calls prog 21 #[.agg #[.int .i64 g,.int .i64 j,.slice x Q Y,.slice z t a0],.agg #[.int .i64 i,.int .i64 m,.slice y R Z,.slice A u a1]] w fun K U=>K=.returned (.bool (decide (g=i/\j=m/\n=o/\r=s)))/\Below w.heap.size w U:=by
 have b:∀c d,Below w.heap.size w ((w.alloc c).alloc d):=fun c d=>((Below.refl w.heap.size w).alloc nL c).alloc (by simp) d;obtain ⟨G,H,V,X⟩:=hqq4 (L.mono b1) (M.mono b2) (N.mono I) (O.mono J);clear L M N O b1 b2 I J;by_cases e:g=i
 · by_cases f:j=m
   · by_cases q:n=o
     · have v:(g==i)=true:=(by rw [zCq];exact e);have S:(j==m)=true:=(by rw [zCq];exact f);have a:=lhd (And.intro e (And.intro f q));clear e f q;go_enter func21,ntmps21;have a5:=fun c d=>iP (G.out.below (b c d));have a6:=fun c d=>iP (H.out.below (b c d));have a7:(n==o)=true:=(by rw [zCq];exact a.out.2.2);go_wp2_with fail;refine (wJ _ _ _ _ _ _ _ _ r s _ (V.out.below (b _ _)) (X.out.below (b _ _)) a3 a4).mono ?_;rintro K U ⟨rfl,P⟩;have a2:=(b _ _).trans (P.mono (b _ _).size);clear P;go_wp2_with fail;go_ret;exact ⟨cO (by simp [a.out.1,a.out.2.1,a.out.2.2]),a2⟩
     · have v:(g==i)=true:=(by rw [zCq];exact e);have S:(j==m)=true:=(by rw [zCq];exact f);have a:=lhd q;clear e f q;go_enter func21,ntmps21;have a5:=fun c d=>iP (G.out.below (b c d));have a6:=fun c d=>iP (H.out.below (b c d));have a7:(n==o)=false:=(by rw [zCb];exact a.out);go_wp2_with fail;go_ret;exact ⟨cO (by simp [a.out]),b _ _⟩
   · have v:(g==i)=true:=(by rw [zCq];exact e);have S:(j==m)=false:=(by rw [zCb];exact f);have a:=lhd f;clear e f;go_enter func21,ntmps21;go_wp2_with fail;go_ret;exact ⟨cO (by simp [a.out]),b _ _⟩
 · have v:(g==i)=false:=(by rw [zCb];exact e);have a:=lhd e;clear e;go_enter func21,ntmps21;go_wp2_with fail;go_ret;exact ⟨cO (by simp [a.out]),b _ _⟩
def iO (a b:List UInt8):Value.string ((⟨a.toArray⟩:ByteArray)++⟨b.toArray⟩)=.string ⟨(a++b).toArray⟩:=congrArg Value.string (by
 apply ByteArray.ext;rw [ByteArray.data_append];simp)
def RdN (w:World) (d e:Nat) (a:Option Addr) (c:Nat) (f:List Value):Prop:=Rd w w.heap.size e a c f/\(0 < c->∀b,a=some b->d<=b.block)
def RdN.keepF {d:Nat->Prop} {w i:World} {b g f:Nat} {c:Option Addr} {j:List Value} (a:RdN w b g c f j) (k:Keep d w i) (q:∀e,d e->e < b):RdN i b g c f j:=
 ⟨Rd.keepF a.1 k nL fun r m o n=>by have:=a.2 r m o;have:=q _ n;omega,a.2⟩
def RdN.below {w f:World} {c e d:Nat} {a:Option Addr} {g:List Value} (b:RdN w c e a d g) (k:Below w.heap.size w f):RdN f c e a d g:=⟨(b.1.below k).mono k.size,b.2⟩
def RdN.mono {w:World} {c d f e:Nat} {a:Option Addr} {g:List Value} (b:RdN w c f a e g) (m:d<=c):RdN w d f a e g:=⟨b.1,fun n i j=>zAk m (b.2 n i j)⟩
def RdN.nil (w:World) (c d:Nat) (a:Option Addr):RdN w c d a 0 []:=⟨Rd.nil _ _ _ _,fun b=>absurd b oM⟩
def RdN.of_made {w:World} {b e d i:Nat} {j:TypeId} {a:Option Addr} {f:List Value} (c:Made w b j e a d i f):RdN w b e a d f:=⟨c.rd,fun n g m=>by subst m;exact (c.own.lt g.block rfl).1⟩
def aHZ (d e b:Nat) (g:List Value):Value->World->Prop:=fun f w=>∃a c,f=.slice a b c/\RdN w d e a b g
def aB7 {a:Nat->Prop} {c:Nat} (i:∀b,a b->b < c) (m j:Nat) (n:List Value):uJ a (aHZ c m j n):=fun _ _ _ ⟨d,e,f,g⟩ k=>⟨d,e,f,g.keepF k i⟩
def aKn (d:Nat) (a:List UInt8):Value->World->Prop:=fun e w=>∃b c,e=.agg (jN ⟨0,0,a, []⟩ b c none 0)/\RdN w d 1 b a.length (a.map bv)
def aFU {a:Nat->Prop} {c:Nat} (j:∀b,a b->b < c) (e:List UInt8):uJ a (aKn c e):=fun _ _ _ ⟨d,f,g,i⟩ k=>⟨d,f,g,i.keepF k j⟩
def aIG (e d:Nat) (a:List UInt8):Value->World->Prop:=fun _ w=>∃b c,Bk w e 50 (jN ⟨0,0,a, []⟩ b c none 0)/\RdN w d 1 b a.length (a.map bv)
def aGG (g f:Nat) (c:List UInt8):Stb (aIG g f c):=fun _ _ _ ⟨b,d,a,e⟩ k=>⟨b,d,Bk.below a k a.lt,e.below k⟩
def aHF (w:World) (l:List UInt8) (b:Nat) (c:TypeId) (d:Nat×Nat) (i e:Nat) (o:l.length=i) (n:e=w.heap.size):RdN (w.drew.alloc (.cells (bytesRow ⟨l.toArray⟩ b) c d)) e 1 (some ⟨e,0,none⟩) i (l.map bv):=by
 subst n;refine ⟨⟨by simp [o],fun _=>⟨_,0,rfl,by simp,fun g r a=>?_⟩⟩,fun _ q m=>by cases m;exact zAs _⟩;have j:=cell_of_row (w.drew.alloc (.cells (bytesRow ⟨l.toArray⟩ b) c d)) w.heap.size g (bytesRow ⟨l.toArray⟩ b) c d (heap_alloc_new w.drew _);rw [zBi,j];unfold bytesRow;have f:g < l.length:=by have:=(zAc.1 a).1;simpa using this
 rw [Array.getElem?_append_left (by simpa using f)];rw [zAf,zAa f] at a;simp only [Option.map_some,Option.some.injEq] at a;rw [<-a];simp [f,bv]
def cC (gx:Nat) (most:Int) (f:List UInt8) (a:Told) (w b:World) (j:Ending):Prop:=
 ∃c i d e,j=.returned (.agg (jN a c i d e))/\Keep (fun g=>g=gx) w b/\RdN b w.heap.size 1 c a.data.length (a.data.map bv)/\Made b w.heap.size 3 1 d a.places.length e (a.places.map nv)/\Bk b gx 56 #[.string ⟨f.toArray⟩,.int .i64 most]
def cT {gx:Nat} {most:Int} {d:List UInt8} {b:Told} {w a:World} {c:Array Value} {s:Nat} {A1:Option Addr} {c1:Nat} {A2:Option Addr} {c2:Nat} (o:c.getD 4 undef=.pointer (some s)) (i:Bk a s 50 (jN b A1 c1 A2 c2))
 (j:Keep (fun e=>e=gx) w a) (m:RdN a w.heap.size 1 A1 b.data.length (b.data.map bv)) (n:Made a w.heap.size 3 1 A2 b.places.length c2 (b.places.map nv)) (q:Bk a gx 56 #[.string ⟨d.toArray⟩,.int .i64 most]):
 bodyPost prog f25 (fun g a=>cC gx most d b w a g) .ret ⟨c, []⟩ a:=by
 have r:=results_cell_row (P:=prog) (fn:=f25) (p:=4) (ty:=50) rfl c a s 50 (jN b A1 c1 A2 c2) (0,0) _ o i underlying50 rfl kR;exact bodyPost_ret r rfl ⟨A1,c1,A2,c2,rfl,j,m,n,q⟩
structure RefF (w W:World) (gx nd cd:Nat) (AD:Option Addr) (T D:List UInt8) (most kind p k:Int):Prop where
 low:Below w.heap.size w W
 step:Bk W w.heap.size 46 #[.int .i64 kind,.int .i64 p,.int .i64 k,.slice AD nd cd]
 res:Bk W (w.heap.size+1) 50 #[.int .i64 0,.int .i64 0,.slice none 0 0,.slice none 0 0]
 mod:Bk W gx 56 #[.string ⟨T.toArray⟩,.int .i64 most]
 rD:Rd W w.heap.size 1 AD nd (D.map bv)
 gxl:gx < w.heap.size
section
variable {w W W' : World} {gx nd cd : Nat} {AD : Option Addr} {T D : List UInt8} {most kind p k : Int}
def RefF.grow (a:RefF w W gx nd cd AD T D most kind p k) (b:Grow W W'):RefF w W' gx nd cd AD T D most kind p k:=
 ⟨a.low.trans (Below.mono b a.low.size),a.step.below b a.step.lt,a.res.below b a.res.lt,a.mod.below b a.mod.lt,a.rD.below (Below.mono b a.low.size),a.gxl⟩
def dT (w:World) (kind p k:Int) (AD:Option Addr) (nd cd:Nat) (a:Array Value):Below w.heap.size w ((w.alloc (.cells #[.int .i64 kind,.int .i64 p,.int .i64 k,.slice AD nd cd] 46)).alloc (.cells a 50)):=
 ((Below.refl w.heap.size w).alloc nL _).alloc (by simp) _
def dW (w:World) (kind p k:Int) (AD:Option Addr) (nd cd:Nat) (a:Array Value):Bk ((w.alloc (.cells #[.int .i64 kind,.int .i64 p,.int .i64 k,.slice AD nd cd] 46)).alloc (.cells a 50)) (w.heap.size+1) 50 a:=by
 simpa using Bk.new (w.alloc (.cells #[.int .i64 kind,.int .i64 p,.int .i64 k,.slice AD nd cd] 46)) 50 a
def bU {a:Nat} (b:Bk w gx 56 #[.string ⟨T.toArray⟩,.int .i64 most]) (d:Rd w a 1 AD nd (D.map bv)) (c:a<=w.heap.size):
 RefF w ((w.alloc (.cells #[.int .i64 kind,.int .i64 p,.int .i64 k,.slice AD nd cd] 46)).alloc (.cells #[.int .i64 0,.int .i64 0,.slice none 0 0,.slice none 0 0] 50)) gx nd cd AD T D most kind p k:=
 ⟨dT _ _ _ _ _ _ _ _,(Bk.new _ _ _).alloc _,dW _ _ _ _ _ _ _ _,(b.alloc _).alloc _,(d.mono c).below (dT _ _ _ _ _ _ _ _),b.lt⟩
end
def aDj (gx:Nat) (AD:Option Addr) (nd cd e:Nat) (p k:Int) (most:Int) (T D:List UInt8) (d:Nat) (c:T.length=d) (w:World) (a:Bk w gx 56 #[.string ⟨T.toArray⟩,.int .i64 most])
 (b:Rd w e 1 AD nd (D.map bv)) (n:e<=w.heap.size) (i:0 < nd->∀g,AD=some g->g.block≠gx) (y:d<=549755813888) (v:nd<=549755813888) (C:-9223372036854775808<=(p:Int)/\(p:Int)<=9223372036854775807) (o:-9223372036854775808<=(k:Int)/\(k:Int)<=9223372036854775807) (B:0<=most/\most<=2147483648)
 (u:p < 0):
 Calls prog 25 #[gx,aY 1 p k AD nd cd] w fun m q=>cC gx most (T) ⟨2,0, [], []⟩ w q m:=by
 have x:D.length=nd:=by simpa using b.1
 have f:=bU (kind:=1) (p:=p) (k:=k) (cd:=cd) a b n;obtain ⟨r,j,t,s⟩:=hqq4 f a c i;have z:=a.lt;have F:(⟨T.toArray⟩:ByteArray).size=d:=(aS T).trans c;have E:w.cell? gx=some (.string ⟨T.toArray⟩):=(a.cell 0).trans rfl;clear b a f c i;have A:=o;unfold aY;go_enter func25,ntmps25;go_wp2;exact cT (A1:=none) (c1:=0) (A2:=none) (c2:=0) rfl (dW w 1 p k AD nd cd #[.int .i64 2,.int .i64 0,.slice none 0 0,.slice none 0 0]) (Keep.of_below (dT _ _ _ _ _ _ _ _)) (RdN.nil _ _ _ _) (bB _ _ _) ((j.out.alloc _).alloc _)
def aDk (gx:Nat) (AD:Option Addr) (nd cd e:Nat) (p k:Int) (most:Int) (T D:List UInt8) (b:Nat) (d:T.length=b) (w:World) (a:Bk w gx 56 #[.string ⟨T.toArray⟩,.int .i64 most])
 (c:Rd w e 1 AD nd (D.map bv)) (n:e<=w.heap.size) (i:0 < nd->∀g,AD=some g->g.block≠gx) (z:b<=549755813888) (x:nd<=549755813888) (E:-9223372036854775808<=(p:Int)/\(p:Int)<=9223372036854775807) (o:-9223372036854775808<=(k:Int)/\(k:Int)<=9223372036854775807) (C:0<=most/\most<=2147483648)
 (u:¬(p < 0)) (v:p > (b:Int)):
 Calls prog 25 #[gx,aY 1 p k AD nd cd] w fun m q=>cC gx most (T) ⟨2,0, [], []⟩ w q m:=by
 have y:D.length=nd:=by simpa using c.1
 have f:=bU (kind:=1) (p:=p) (k:=k) (cd:=cd) a c n;obtain ⟨r,j,t,s⟩:=hqq4 f a d i;have A:=a.lt;have G:(⟨T.toArray⟩:ByteArray).size=b:=(aS T).trans d;have F:w.cell? gx=some (.string ⟨T.toArray⟩):=(a.cell 0).trans rfl;clear c a f d i;have B:=o;unfold aY;go_enter func25,ntmps25;go_wp2;exact cT (A1:=none) (c1:=0) (A2:=none) (c2:=0) rfl (dW w 1 p k AD nd cd #[.int .i64 2,.int .i64 0,.slice none 0 0,.slice none 0 0]) (Keep.of_below (dT _ _ _ _ _ _ _ _)) (RdN.nil _ _ _ _) (bB _ _ _) ((j.out.alloc _).alloc _)
def aDl (gx:Nat) (AD:Option Addr) (nd cd e:Nat) (p k:Int) (most:Int) (T D:List UInt8) (d:Nat) (c:T.length=d) (w:World) (a:Bk w gx 56 #[.string ⟨T.toArray⟩,.int .i64 most])
 (b:Rd w e 1 AD nd (D.map bv)) (n:e<=w.heap.size) (i:0 < nd->∀g,AD=some g->g.block≠gx) (y:d<=549755813888) (v:nd<=549755813888) (C:-9223372036854775808<=(p:Int)/\(p:Int)<=9223372036854775807) (o:-9223372036854775808<=(k:Int)/\(k:Int)<=9223372036854775807) (B:0<=most/\most<=2147483648)
 (u:p < 0):
 Calls prog 25 #[gx,aY 2 p k AD nd cd] w fun m q=>cC gx most (T) ⟨2,0, [], []⟩ w q m:=by
 have x:D.length=nd:=by simpa using b.1
 have f:=bU (kind:=2) (p:=p) (k:=k) (cd:=cd) a b n;obtain ⟨r,j,t,s⟩:=hqq4 f a c i;have z:=a.lt;have F:(⟨T.toArray⟩:ByteArray).size=d:=(aS T).trans c;have E:w.cell? gx=some (.string ⟨T.toArray⟩):=(a.cell 0).trans rfl;clear b a f c i;have A:=o;unfold aY;go_enter func25,ntmps25;go_wp2;exact cT (A1:=none) (c1:=0) (A2:=none) (c2:=0) rfl (dW w 2 p k AD nd cd #[.int .i64 2,.int .i64 0,.slice none 0 0,.slice none 0 0]) (Keep.of_below (dT _ _ _ _ _ _ _ _)) (RdN.nil _ _ _ _) (bB _ _ _) ((j.out.alloc _).alloc _)
def aBB (gx:Nat) (AD:Option Addr) (nd cd e:Nat) (p k:Int) (most:Int) (T D:List UInt8) (d:Nat) (c:T.length=d) (w:World) (a:Bk w gx 56 #[.string ⟨T.toArray⟩,.int .i64 most])
 (b:Rd w e 1 AD nd (D.map bv)) (n:e<=w.heap.size) (i:0 < nd->∀g,AD=some g->g.block≠gx) (z:d<=549755813888) (x:nd<=549755813888) (E:-9223372036854775808<=(p:Int)/\(p:Int)<=9223372036854775807) (o:-9223372036854775808<=(k:Int)/\(k:Int)<=9223372036854775807) (C:0<=most/\most<=2147483648)
 (u:¬(p < 0)) (v:k < 0):
 Calls prog 25 #[gx,aY 2 p k AD nd cd] w fun m q=>cC gx most (T) ⟨2,0, [], []⟩ w q m:=by
 have y:D.length=nd:=by simpa using b.1
 have f:=bU (kind:=2) (p:=p) (k:=k) (cd:=cd) a b n;obtain ⟨r,j,t,s⟩:=hqq4 f a c i;have A:=a.lt;have G:(⟨T.toArray⟩:ByteArray).size=d:=(aS T).trans c;have F:w.cell? gx=some (.string ⟨T.toArray⟩):=(a.cell 0).trans rfl;clear b a f c i;have B:=o;unfold aY;go_enter func25,ntmps25;go_wp2;exact cT (A1:=none) (c1:=0) (A2:=none) (c2:=0) rfl (dW w 2 p k AD nd cd #[.int .i64 2,.int .i64 0,.slice none 0 0,.slice none 0 0]) (Keep.of_below (dT _ _ _ _ _ _ _ _)) (RdN.nil _ _ _ _) (bB _ _ _) ((j.out.alloc _).alloc _)
def aDm (gx:Nat) (AD:Option Addr) (nd cd e:Nat) (p k:Int) (most:Int) (T D:List UInt8) (b:Nat) (d:T.length=b) (w:World) (a:Bk w gx 56 #[.string ⟨T.toArray⟩,.int .i64 most])
 (c:Rd w e 1 AD nd (D.map bv)) (n:e<=w.heap.size) (i:0 < nd->∀g,AD=some g->g.block≠gx) (A:b<=549755813888) (y:nd<=549755813888) (F:-9223372036854775808<=(p:Int)/\(p:Int)<=9223372036854775807) (o:-9223372036854775808<=(k:Int)/\(k:Int)<=9223372036854775807) (E:0<=most/\most<=2147483648)
 (u:¬(p < 0)) (v:¬(k < 0)) (x:p > (b:Int)):
 Calls prog 25 #[gx,aY 2 p k AD nd cd] w fun m q=>cC gx most (T) ⟨2,0, [], []⟩ w q m:=by
 have z:D.length=nd:=by simpa using c.1
 have f:=bU (kind:=2) (p:=p) (k:=k) (cd:=cd) a c n;obtain ⟨r,j,t,s⟩:=hqq4 f a d i;have B:=a.lt;have H:(⟨T.toArray⟩:ByteArray).size=b:=(aS T).trans d;have G:w.cell? gx=some (.string ⟨T.toArray⟩):=(a.cell 0).trans rfl;clear c a f d i;have C:=o;unfold aY;go_enter func25,ntmps25;go_wp2;exact cT (A1:=none) (c1:=0) (A2:=none) (c2:=0) rfl (dW w 2 p k AD nd cd #[.int .i64 2,.int .i64 0,.slice none 0 0,.slice none 0 0]) (Keep.of_below (dT _ _ _ _ _ _ _ _)) (RdN.nil _ _ _ _) (bB _ _ _) ((j.out.alloc _).alloc _)
def aBC (gx:Nat) (AD:Option Addr) (nd cd e:Nat) (p k:Int) (most:Int) (T D:List UInt8) (b:Nat) (d:T.length=b) (w:World) (a:Bk w gx 56 #[.string ⟨T.toArray⟩,.int .i64 most])
 (c:Rd w e 1 AD nd (D.map bv)) (n:e<=w.heap.size) (i:0 < nd->∀g,AD=some g->g.block≠gx) (B:b<=549755813888) (z:nd<=549755813888) (G:-9223372036854775808<=(p:Int)/\(p:Int)<=9223372036854775807) (o:-9223372036854775808<=(k:Int)/\(k:Int)<=9223372036854775807) (F:0<=most/\most<=2147483648)
 (u:¬(p < 0)) (v:¬(k < 0)) (x:¬(p > (b:Int))) (y:k > (b:Int) - p):
 Calls prog 25 #[gx,aY 2 p k AD nd cd] w fun m q=>cC gx most (T) ⟨2,0, [], []⟩ w q m:=by
 have A:D.length=nd:=by simpa using c.1
 have f:=bU (kind:=2) (p:=p) (k:=k) (cd:=cd) a c n;obtain ⟨r,j,t,s⟩:=hqq4 f a d i;have C:=a.lt;have I:(⟨T.toArray⟩:ByteArray).size=b:=(aS T).trans d;have H:w.cell? gx=some (.string ⟨T.toArray⟩):=(a.cell 0).trans rfl;clear c a f d i;have E:=o;unfold aY;go_enter func25,ntmps25;go_wp2;exact cT (A1:=none) (c1:=0) (A2:=none) (c2:=0) rfl (dW w 2 p k AD nd cd #[.int .i64 2,.int .i64 0,.slice none 0 0,.slice none 0 0]) (Keep.of_below (dT _ _ _ _ _ _ _ _)) (RdN.nil _ _ _ _) (bB _ _ _) ((j.out.alloc _).alloc _)
def aBx (gx:Nat) (AD:Option Addr) (nd cd e:Nat) (p k:Int) (most:Int) (T D:List UInt8) (d:Nat) (c:T.length=d) (w:World) (a:Bk w gx 56 #[.string ⟨T.toArray⟩,.int .i64 most])
 (b:Rd w e 1 AD nd (D.map bv)) (n:e<=w.heap.size) (i:0 < nd->∀g,AD=some g->g.block≠gx) (y:d<=549755813888) (v:nd<=549755813888) (C:-9223372036854775808<=(p:Int)/\(p:Int)<=9223372036854775807) (o:-9223372036854775808<=(k:Int)/\(k:Int)<=9223372036854775807) (B:0<=most/\most<=2147483648)
 (u:p < 0):
 Calls prog 25 #[gx,aY 5 p k AD nd cd] w fun m q=>cC gx most (T) ⟨2,0, [], []⟩ w q m:=by
 have x:D.length=nd:=by simpa using b.1
 have f:=bU (kind:=5) (p:=p) (k:=k) (cd:=cd) a b n;obtain ⟨r,j,t,s⟩:=hqq4 f a c i;have z:=a.lt;have F:(⟨T.toArray⟩:ByteArray).size=d:=(aS T).trans c;have E:w.cell? gx=some (.string ⟨T.toArray⟩):=(a.cell 0).trans rfl;clear b a f c i;have A:=o;unfold aY;go_enter func25,ntmps25;go_wp2;exact cT (A1:=none) (c1:=0) (A2:=none) (c2:=0) rfl (dW w 5 p k AD nd cd #[.int .i64 2,.int .i64 0,.slice none 0 0,.slice none 0 0]) (Keep.of_below (dT _ _ _ _ _ _ _ _)) (RdN.nil _ _ _ _) (bB _ _ _) ((j.out.alloc _).alloc _)
def zC (gx:Nat) (AD:Option Addr) (nd cd e:Nat) (p k:Int) (most:Int) (T D:List UInt8) (d:Nat) (c:T.length=d) (w:World) (a:Bk w gx 56 #[.string ⟨T.toArray⟩,.int .i64 most])
 (b:Rd w e 1 AD nd (D.map bv)) (n:e<=w.heap.size) (i:0 < nd->∀g,AD=some g->g.block≠gx) (z:d<=549755813888) (x:nd<=549755813888) (E:-9223372036854775808<=(p:Int)/\(p:Int)<=9223372036854775807) (o:-9223372036854775808<=(k:Int)/\(k:Int)<=9223372036854775807) (C:0<=most/\most<=2147483648)
 (u:¬(p < 0)) (v:k < 0):
 Calls prog 25 #[gx,aY 5 p k AD nd cd] w fun m q=>cC gx most (T) ⟨2,0, [], []⟩ w q m:=by
 have y:D.length=nd:=by simpa using b.1
 have f:=bU (kind:=5) (p:=p) (k:=k) (cd:=cd) a b n;obtain ⟨r,j,t,s⟩:=hqq4 f a c i;have A:=a.lt;have G:(⟨T.toArray⟩:ByteArray).size=d:=(aS T).trans c;have F:w.cell? gx=some (.string ⟨T.toArray⟩):=(a.cell 0).trans rfl;clear b a f c i;have B:=o;unfold aY;go_enter func25,ntmps25;go_wp2;exact cT (A1:=none) (c1:=0) (A2:=none) (c2:=0) rfl (dW w 5 p k AD nd cd #[.int .i64 2,.int .i64 0,.slice none 0 0,.slice none 0 0]) (Keep.of_below (dT _ _ _ _ _ _ _ _)) (RdN.nil _ _ _ _) (bB _ _ _) ((j.out.alloc _).alloc _)
def aBy (gx:Nat) (AD:Option Addr) (nd cd e:Nat) (p k:Int) (most:Int) (T D:List UInt8) (b:Nat) (d:T.length=b) (w:World) (a:Bk w gx 56 #[.string ⟨T.toArray⟩,.int .i64 most])
 (c:Rd w e 1 AD nd (D.map bv)) (n:e<=w.heap.size) (i:0 < nd->∀g,AD=some g->g.block≠gx) (A:b<=549755813888) (y:nd<=549755813888) (F:-9223372036854775808<=(p:Int)/\(p:Int)<=9223372036854775807) (o:-9223372036854775808<=(k:Int)/\(k:Int)<=9223372036854775807) (E:0<=most/\most<=2147483648)
 (u:¬(p < 0)) (v:¬(k < 0)) (x:p > (b:Int)):
 Calls prog 25 #[gx,aY 5 p k AD nd cd] w fun m q=>cC gx most (T) ⟨2,0, [], []⟩ w q m:=by
 have z:D.length=nd:=by simpa using c.1
 have f:=bU (kind:=5) (p:=p) (k:=k) (cd:=cd) a c n;obtain ⟨r,j,t,s⟩:=hqq4 f a d i;have B:=a.lt;have H:(⟨T.toArray⟩:ByteArray).size=b:=(aS T).trans d;have G:w.cell? gx=some (.string ⟨T.toArray⟩):=(a.cell 0).trans rfl;clear c a f d i;have C:=o;unfold aY;go_enter func25,ntmps25;go_wp2;exact cT (A1:=none) (c1:=0) (A2:=none) (c2:=0) rfl (dW w 5 p k AD nd cd #[.int .i64 2,.int .i64 0,.slice none 0 0,.slice none 0 0]) (Keep.of_below (dT _ _ _ _ _ _ _ _)) (RdN.nil _ _ _ _) (bB _ _ _) ((j.out.alloc _).alloc _)
def zD (gx:Nat) (AD:Option Addr) (nd cd e:Nat) (p k:Int) (most:Int) (T D:List UInt8) (b:Nat) (d:T.length=b) (w:World) (a:Bk w gx 56 #[.string ⟨T.toArray⟩,.int .i64 most])
 (c:Rd w e 1 AD nd (D.map bv)) (n:e<=w.heap.size) (i:0 < nd->∀g,AD=some g->g.block≠gx) (B:b<=549755813888) (z:nd<=549755813888) (G:-9223372036854775808<=(p:Int)/\(p:Int)<=9223372036854775807) (o:-9223372036854775808<=(k:Int)/\(k:Int)<=9223372036854775807) (F:0<=most/\most<=2147483648)
 (u:¬(p < 0)) (v:¬(k < 0)) (x:¬(p > (b:Int))) (y:k > (b:Int) - p):
 Calls prog 25 #[gx,aY 5 p k AD nd cd] w fun m q=>cC gx most (T) ⟨2,0, [], []⟩ w q m:=by
 have A:D.length=nd:=by simpa using c.1
 have f:=bU (kind:=5) (p:=p) (k:=k) (cd:=cd) a c n;obtain ⟨r,j,t,s⟩:=hqq4 f a d i;have C:=a.lt;have I:(⟨T.toArray⟩:ByteArray).size=b:=(aS T).trans d;have H:w.cell? gx=some (.string ⟨T.toArray⟩):=(a.cell 0).trans rfl;clear c a f d i;have E:=o;unfold aY;go_enter func25,ntmps25;go_wp2;exact cT (A1:=none) (c1:=0) (A2:=none) (c2:=0) rfl (dW w 5 p k AD nd cd #[.int .i64 2,.int .i64 0,.slice none 0 0,.slice none 0 0]) (Keep.of_below (dT _ _ _ _ _ _ _ _)) (RdN.nil _ _ _ _) (bB _ _ _) ((j.out.alloc _).alloc _)
def aDh (gx:Nat) (AD:Option Addr) (nd cd e:Nat) (p k:Int) (most:Int) (T D:List UInt8) (d:Nat) (c:T.length=d) (w:World) (a:Bk w gx 56 #[.string ⟨T.toArray⟩,.int .i64 most])
 (b:Rd w e 1 AD nd (D.map bv)) (n:e<=w.heap.size) (i:0 < nd->∀g,AD=some g->g.block≠gx) (y:d<=549755813888) (v:nd<=549755813888) (C:-9223372036854775808<=(p:Int)/\(p:Int)<=9223372036854775807) (o:-9223372036854775808<=(k:Int)/\(k:Int)<=9223372036854775807) (B:0<=most/\most<=2147483648)
 (u:p < 0):
 Calls prog 25 #[gx,aY 3 p k AD nd cd] w fun m q=>cC gx most (T) ⟨2,0, [], []⟩ w q m:=by
 have x:D.length=nd:=by simpa using b.1
 have f:=bU (kind:=3) (p:=p) (k:=k) (cd:=cd) a b n;obtain ⟨r,j,t,s⟩:=hqq4 f a c i;have z:=a.lt;have F:(⟨T.toArray⟩:ByteArray).size=d:=(aS T).trans c;have E:w.cell? gx=some (.string ⟨T.toArray⟩):=(a.cell 0).trans rfl;clear b a f c i;have A:=o;unfold aY;go_enter func25,ntmps25;go_wp2;exact cT (A1:=none) (c1:=0) (A2:=none) (c2:=0) rfl (dW w 3 p k AD nd cd #[.int .i64 2,.int .i64 0,.slice none 0 0,.slice none 0 0]) (Keep.of_below (dT _ _ _ _ _ _ _ _)) (RdN.nil _ _ _ _) (bB _ _ _) ((j.out.alloc _).alloc _)
def aDi (gx:Nat) (AD:Option Addr) (nd cd e:Nat) (p k:Int) (most:Int) (T D:List UInt8) (b:Nat) (d:T.length=b) (w:World) (a:Bk w gx 56 #[.string ⟨T.toArray⟩,.int .i64 most])
 (c:Rd w e 1 AD nd (D.map bv)) (n:e<=w.heap.size) (i:0 < nd->∀g,AD=some g->g.block≠gx) (z:b<=549755813888) (x:nd<=549755813888) (E:-9223372036854775808<=(p:Int)/\(p:Int)<=9223372036854775807) (o:-9223372036854775808<=(k:Int)/\(k:Int)<=9223372036854775807) (C:0<=most/\most<=2147483648)
 (u:¬(p < 0)) (v:p > (b:Int)):
 Calls prog 25 #[gx,aY 3 p k AD nd cd] w fun m q=>cC gx most (T) ⟨2,0, [], []⟩ w q m:=by
 have y:D.length=nd:=by simpa using c.1
 have f:=bU (kind:=3) (p:=p) (k:=k) (cd:=cd) a c n;obtain ⟨r,j,t,s⟩:=hqq4 f a d i;have A:=a.lt;have G:(⟨T.toArray⟩:ByteArray).size=b:=(aS T).trans d;have F:w.cell? gx=some (.string ⟨T.toArray⟩):=(a.cell 0).trans rfl;clear c a f d i;have B:=o;unfold aY;go_enter func25,ntmps25;go_wp2;exact cT (A1:=none) (c1:=0) (A2:=none) (c2:=0) rfl (dW w 3 p k AD nd cd #[.int .i64 2,.int .i64 0,.slice none 0 0,.slice none 0 0]) (Keep.of_below (dT _ _ _ _ _ _ _ _)) (RdN.nil _ _ _ _) (bB _ _ _) ((j.out.alloc _).alloc _)
def aBz (gx:Nat) (AD:Option Addr) (nd cd e:Nat) (p k:Int) (most:Int) (T D:List UInt8) (b:Nat) (d:T.length=b) (w:World) (a:Bk w gx 56 #[.string ⟨T.toArray⟩,.int .i64 most])
 (c:Rd w e 1 AD nd (D.map bv)) (n:e<=w.heap.size) (i:0 < nd->∀g,AD=some g->g.block≠gx) (A:b<=549755813888) (y:nd<=549755813888) (F:-9223372036854775808<=(p:Int)/\(p:Int)<=9223372036854775807) (o:-9223372036854775808<=(k:Int)/\(k:Int)<=9223372036854775807) (E:0<=most/\most<=2147483648)
 (u:¬(p < 0)) (v:¬(p > (b:Int))) (x:(nd:Int) > (b:Int) - p):
 Calls prog 25 #[gx,aY 3 p k AD nd cd] w fun m q=>cC gx most (T) ⟨2,0, [], []⟩ w q m:=by
 have z:D.length=nd:=by simpa using c.1
 have f:=bU (kind:=3) (p:=p) (k:=k) (cd:=cd) a c n;obtain ⟨r,j,t,s⟩:=hqq4 f a d i;have B:=a.lt;have H:(⟨T.toArray⟩:ByteArray).size=b:=(aS T).trans d;have G:w.cell? gx=some (.string ⟨T.toArray⟩):=(a.cell 0).trans rfl;clear c a f d i;have C:=o;unfold aY;go_enter func25,ntmps25;go_wp2;exact cT (A1:=none) (c1:=0) (A2:=none) (c2:=0) rfl (dW w 3 p k AD nd cd #[.int .i64 2,.int .i64 0,.slice none 0 0,.slice none 0 0]) (Keep.of_below (dT _ _ _ _ _ _ _ _)) (RdN.nil _ _ _ _) (bB _ _ _) ((j.out.alloc _).alloc _)
def aJB (gx:Nat) (AD:Option Addr) (nd cd e:Nat) (p k:Int) (most:Int) (T D:List UInt8) (b:Nat) (d:T.length=b) (w:World) (a:Bk w gx 56 #[.string ⟨T.toArray⟩,.int .i64 most])
 (c:Rd w e 1 AD nd (D.map bv)) (n:e<=w.heap.size) (i:0 < nd->∀g,AD=some g->g.block≠gx) (v:b<=549755813888) (t:nd<=549755813888) (A:-9223372036854775808<=(p:Int)/\(p:Int)<=9223372036854775807) (y:-9223372036854775808<=(k:Int)/\(k:Int)<=9223372036854775807) (z:0<=most/\most<=2147483648)
  :
 Calls prog 25 #[gx,aY 4 p k AD nd cd] w fun m o=>cC gx most (T) ⟨0,(b:Int), [], []⟩ w o m:=by
 have u:D.length=nd:=by simpa using c.1
 have f:=bU (kind:=4) (p:=p) (k:=k) (cd:=cd) a c n;obtain ⟨q,j,s,r⟩:=hqq4 f a d i;have x:=a.lt;have C:(⟨T.toArray⟩:ByteArray).size=b:=(aS T).trans d;have B:w.cell? gx=some (.string ⟨T.toArray⟩):=(a.cell 0).trans rfl;clear c a f d i;unfold aY;go_enter func25,ntmps25;go_wp2;exact cT (A1:=none) (c1:=0) (A2:=none) (c2:=0) rfl (dW w 4 p k AD nd cd #[.int .i64 0,(b:Int),.slice none 0 0,.slice none 0 0]) (Keep.of_below (dT _ _ _ _ _ _ _ _)) (RdN.nil _ _ _ _) (bB _ _ _) ((j.out.alloc _).alloc _)
def aEY (gx:Nat) (AD:Option Addr) (nd cd e:Nat) (p k:Int) (most:Int) (T D:List UInt8) (d:Nat) (c:T.length=d) (w:World) (a:Bk w gx 56 #[.string ⟨T.toArray⟩,.int .i64 most])
 (b:Rd w e 1 AD nd (D.map bv)) (n:e<=w.heap.size) (i:0 < nd->∀g,AD=some g->g.block≠gx) (v:d<=549755813888) (t:nd<=549755813888) (A:-9223372036854775808<=(p:Int)/\(p:Int)<=9223372036854775807) (y:-9223372036854775808<=(k:Int)/\(k:Int)<=9223372036854775807) (z:0<=most/\most<=2147483648)
  :
 Calls prog 25 #[gx,aY 8 p k AD nd cd] w fun m o=>cC gx most (T) ⟨0,0, [], []⟩ w o m:=by
 have u:D.length=nd:=by simpa using b.1
 have f:=bU (kind:=8) (p:=p) (k:=k) (cd:=cd) a b n;obtain ⟨q,j,s,r⟩:=hqq4 f a c i;have x:=a.lt;have C:(⟨T.toArray⟩:ByteArray).size=d:=(aS T).trans c;have B:w.cell? gx=some (.string ⟨T.toArray⟩):=(a.cell 0).trans rfl;clear b a f c i;unfold aY;go_enter func25,ntmps25;go_wp2;exact cT (A1:=none) (c1:=0) (A2:=none) (c2:=0) rfl (dW w 8 p k AD nd cd #[.int .i64 0,.int .i64 0,.slice none 0 0,.slice none 0 0]) (Keep.of_below (dT _ _ _ _ _ _ _ _)) (RdN.nil _ _ _ _) (bB _ _ _) ((j.out.alloc _).alloc _)
end
end Go.Proofs.YthldmddkfbijhaaGreatDoor
