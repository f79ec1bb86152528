/- Lemmas of the walk. Conditions: each its own. -/
import Derived.Test.YtknjfpcdhdmghaaGreatDoorPt2
set_option linter.all false
set_option maxRecDepth 100000
set_option maxHeartbeats 4000000
namespace Go.Proofs.YtknjfpcdhdmghaaGreatDoor
open Tryz
open Go.RowKit
def mB:(prog.info? 5).map (λa=>(a.zero,a.size,a.bytes))=some (some (.int .u8 0),1,1):=by kernel_rfl
def uv (a:Nat):Value:=.int .u64 a
def aNO (a:Nat):bits .or .u8 ((a:Int)% 256) 128=((a % 128+128:Nat):Int):=by
 have c:∀b:Fin 256,bits .or .u8 ((b.val:Nat):Int) 128=((b.val % 128+128:Nat):Int):=by decide+kernel
 have:=c ⟨a % 256,by omega⟩;simp only at this;rw [show ((a:Int)% 256)=((a % 256:Nat):Int) by omega,this];omega
def aOS (a:Nat):bits .and .u8 ((a:Int)% 256) 127=((a % 128:Nat):Int):=by
 have c:∀b:Fin 256,bits .and .u8 ((b.val:Nat):Int) 127=((b.val % 128:Nat):Int):=by decide+kernel
 have:=c ⟨a % 256,by omega⟩;simp only at this;rw [show ((a:Int)% 256)=((a % 256:Nat):Int) by omega,this];omega
def aPf (b a:Nat):Value.int .u8 (bits .or .u8 ((b:Int)/ 2 ^ a % 256) 128)=bv (UInt8.ofNat (b / 2 ^ a % 128+128)):=by
 have:((b:Int)/ 2 ^ a)=((b / 2 ^ a:Nat):Int):=by push_cast;rfl
 rw [this,aNO];unfold bv;congr 1;simp [zEc];omega
def aOx (a:Nat):Value.int .u8 (bits .and .u8 ((a:Int)% 256) 127)=bv (UInt8.ofNat (a % 128)):=by
 rw [aOS];unfold bv;congr 1;simp [zEc];omega
def aNx {x i} (J) {e c} (C:Rd c c.heap.size 1 x i (e.map uv)) (W:∀b∈e,b < 18446744073709551616) (a8:i<=100000):
 Calls prog 78 #[.slice x i J] c λK H=>∃l a,K=.returned l/\H.ownsRow c.heap.size 5 1 l a ((dZ e).map bv)/\Below c.heap.size c H:=by
 obtain ⟨G,z,D,E,F⟩:=info_parts mB;have A:=C.1;go_enter func78,ntmps78;go_wp2;go_loopw [3,9] (λl g wr=>∃a q:Nat,a<=i/\g=.int .i64 a/\wr.ownsRow c.heap.size 5 1 l q ((dZ (e.take a)).map bv)/\Below c.heap.size c wr) (λ_ g _=>i -(intOf g).toNat)
 case atStart=>exact ⟨0,0,zAp _,rfl,ki _ _ _ _,kg _ _⟩
 case round=>
  obtain ⟨a,q,a7,rfl,v,r⟩:=hrel;by_cases X:a < i
  .have a1:∃b,e[a]?=some b:=(by have:=A;simp at this;exact ⟨e[a]' oM,zAa oM⟩);obtain ⟨b,u⟩:=a1;obtain ⟨a4,aa,ab,rfl,a6,w,Q⟩:=(C.below r).get X;rw [zAf,u] at w;simp at w;subst w;unfold uv at Q;have B:b < 18446744073709551616:=W b (zAd u);go_wp2
   go_loop [6] (λk=>∃d:Nat,d<=9/\k=.int .i64 (7*(d:Int))/\(d=0∨1<=b / 2 ^(7*d))) (λk=>100 -(intOf k).toNat)
   case atStart=>exact ⟨0,by omega,rfl,.inl rfl⟩
   case round=>
    obtain ⟨d,S,rfl,R⟩:=hrel;go_wp2
    .have O:(128:Int)<=b/ 2 ^(7*d):=(by assumption);have P:128<=b / 2 ^(7*d):=(by exact_mod_cast O);have U:=aIA B S P;refine ⟨⟨d+1,U,by go_num,.inr (by rw [aOu];omega)⟩,by simp [intOf];omega⟩
    .have Z:(b:Int)/ 2 ^(7*d) < 128:=(by assumption);have a0:b / 2 ^(7*d) < 128:=(by exact_mod_cast Z);go_loopw [3,6] (λl k I=>∃f j:Nat,f<=d/\k=.int .i64 (7*(f:Int))/\I.ownsRow c.heap.size 5 1 l j ((dZ (e.take a)++mK 10 (b / 2 ^(7*(f+1)))).map bv)/\Below c.heap.size c I) (λ_ k _=>(intOf k).toNat)
     case atStart=>exact ⟨d,q,zAs _,rfl,by rw [aOu,zGq a0];simpa [rE] using v,r⟩
     case round=>
      obtain ⟨f,j,T,rfl,m,s⟩:=hrel;have o:=s.size;have a9:j<=1100010:=(by have M:=m.1;have N:=aAD (e.take a);have a5:=aEJ 10 (b / 2 ^(7*(f+1)));simp at M N;omega);by_cases L:f=0
      .subst L;go_wp2_with (at_builtin;refine bP _ rfl (.tmp 33) (.tmp 37) _ rfl c.heap.size 5 G (.int .u8 0) 1 1 underlying22 z D E F rfl dC u3 j _ rfl m rfl rfl (by simp [Value.oneCell']) zx oM o ?_;intro a2 a3 n p Y y);have t:=aX s m p o;clear p y;go_roundw
       case rel=>refine ⟨a+1,j+1,by omega,by go_num,?_,t⟩;rw [aEY u];rw [aOx] at n;simpa [bW] using n
       case measure=>exact zr
      .go_wp2_with (at_builtin;refine bP _ rfl (.tmp 24) (.tmp 31) _ rfl c.heap.size 5 G (.int .u8 0) 1 1 underlying22 z D E F rfl dC u3 j _ rfl m rfl rfl (by simp [Value.oneCell']) zx oM o ?_;intro a2 a3 n p Y y);have t:=aX s m p o;refine ⟨⟨f - 1,j+1,by omega,cS oM,?_,t⟩,by simp [intOf];omega⟩;rw [aPf] at n;obtain ⟨g,rfl⟩:∃g,f=g+1:=⟨f - 1,by omega⟩;rw [zBb,aCh (b / 2 ^(7*(g+1))),<-aOu];simpa using n;exact aM1 T R;exact zAl (aOd g B) dC
  .have V:a=i:=oM;subst V;go_wp2;go_ret;refine ⟨u3,q,rfl,?_,r⟩;have:e.take a=e:=zAg (by have:=A;simp at this;omega);rw [this] at v;exact v
def aNy {i f} (k) {j a b} (r:Rd b j 1 i f (a.map uv)) (hB:j<=b.heap.size) (q:∀t∈a,t < 18446744073709551616) (e:f<=100000):
 Calls prog 78 #[.slice i f k] b λl g=>∃c d,l=.returned (.slice c (dZ a).length d)/\Made g b.heap.size 5 1 c (dZ a).length d ((dZ a).map bv)/\Below b.heap.size b g:=by
 refine (aNx k (r.mono hB) q e).mono λl g ⟨u,s,o,m,n⟩=>?_;have p:(dZ a).length=s:=by simpa using m.1
 subst p;obtain ⟨c,d,rfl,e⟩:=aR m;exact ⟨c,d,o,e,n⟩
def aBd {c b} (f) {e l a bs k} (m:dZ l=bs) (n:bs.length=k) (q:Rd a e 1 c b (l.map uv)) (hB:e<=a.heap.size) (o:∀r∈l,r < 18446744073709551616) (p:b<=100000):
 Calls prog 78 #[.slice c b f] a λj i=>∃d g,j=.returned (.slice d k g)/\Made i a.heap.size 5 1 d k g (bs.map bv)/\Below a.heap.size a i:=by
 subst m;subst n;exact aNy f q hB o p
def aMC (a):(sizeOf 5).run prog a=.ok 1 a:=by kernel_rfl
def vC (b:Nat) {a:Nat} (f:b<=144115188075855871) (e:a < 256):bits .or .u64 ((b:Int)*128) (IntKind.u64.wrap (bits .and .u8 (a:Int) 127))=((b*128+a % 128:Nat):Int):=by
 have c:bits .and .u8 (a:Int) 127=((a % 128:Nat):Int):=by have:=u8_and_nat a 127 e oM;rw [nat_mask7] at this;exact this
 have d:IntKind.u64.wrap (a % 128:Nat)=((a % 128:Nat):Int):=zv
 rw [c,d,show ((b:Int)*128)=((b*128:Nat):Int) by push_cast;rfl,u64_or_nat _ _ oM oM,nat_join 7 (b*128) (a % 128) oM oM]
def rC {b c d} {a:Nat×Int×Int} (e:a=(b,c,d)):Ending.returned (.tuple #[.int .u64 b,(c:Int),(d:Int)])=Ending.returned (.tuple #[uv a.1,iv a.2.1,iv a.2.2]):=by subst e;rfl
def aEC {c:Nat} {f b d e:Int} {a:Nat×Int×Int} (j:f=(c:Int)) (i:d=b) (g:a=(c,b,e)):Ending.returned (.tuple #[.int .u64 f,(d:Int),(e:Int)])=Ending.returned (.tuple #[uv a.1,iv a.2.1,iv a.2.2]):=by subst g;subst j;subst i;rfl
def aNF {r g p d} (j) {K B} (y:Rd B K 1 r g (d.map bv)) (V:g<=p) (R:p<=maxLen):
 Calls prog 198 #[.slice r g p,(j:Int)] B λO X=>O=.returned (.tuple #[uv (fF d j).1,iv (fF d j).2.1,iv (fF d j).2.2])/\B=X:=by
 unfold maxLen at R;have I:d.length=g:=by simpa using y.1
 obtain ⟨o,N⟩:=hqq2 I y;clear I y;by_cases x:j < 0
 .have m:fF d j=(0,j,2):=(by rw [fF,zBx (.inl x)]);have i:=lhd m;clear m;go_enter func198,ntmps198;go_wp2;go_ret3;exact ⟨rC i,rfl⟩
 by_cases F:(g:Int) < j
 .have m:fF d j=(0,j,2):=(by rw [fF,zBx (.inr (by rw [o.out];exact F))]);have i:=lhd m;clear m;go_enter func198,ntmps198;go_wp2;go_ret3;exact ⟨rC i,rfl⟩
 obtain ⟨a,rfl⟩:=zDB (Int.not_lt.1 x);have H:a<=g:=oM;have m:fF d (a:Int)=match fG (d.drop a) true 0 a with | some (A,W)=>(A,(W:Int),0)| none=>(0,(a:Int),4):=by rw [fF,zBw (by rw [o.out];omega)];rfl
 have i:=lhd m;have w:=N.cut (k:=a) (cap:=p) H V;have hcut:=iC (P:=prog) 22 5 1 underlying22 aMC r g p a H;generalize dH r p a 1=A' at w hcut;have L:=lhd w;have a0:decide ((a:Int) < 0)=false:=zs
 have a1:decide (g < a)=false:=zt
 clear m x w F;go_enter func198,ntmps198;go_wp2
 go_loop [7,23] (λA z=>∃c f:Nat,c<=g - a/\z=.int .i64 c/\A=.int .u64 f/\fG (d.drop (a+c)) (c==0) f (a+c)=fG (d.drop a) true 0 a) (λ_ z=>g -(intOf z).toNat)
 case atStart=>exact ⟨0,0,zAp _,rfl,rfl,rfl⟩
 case round=>
  obtain ⟨c,f,a2,rfl,rfl,E⟩:=hrel;have l:=lhd E;clear E;by_cases U:c < g - a
  .obtain ⟨C,a3,a4,rfl,Z,J,Q⟩:=L.get U;have q:∃e,d[a+c]?=some e:=⟨d[a+c]'(zj o.out),zAa (zj o.out)⟩;obtain ⟨e,q⟩:=q;simp only [zBl,zBt,zAf,q,zEq,zEB] at J;subst J;unfold bv at Q;have D:d.drop (a+c)=e::d.drop (a+c+1):=(by have T:a+c < d.length:=(zj o.out);rw [zAx T];have:d[a+c]=e:=(zAc.1 q).2;rw [this]);have t:e.toNat < 256:=e.toNat_lt;rw [D,oJ] at l;clear q D;go_wp2
   .have Y:(e.toNat:Int)=128:=(by assumption);have n:c=0:=(by assumption);go_ret3;refine ⟨rC ?_,rfl⟩;rw [i.out,<-l.out,zBx (by simp;left;omega)]
   .have n:c=0:=(by assumption);have s:((e.toNat:Int)==128)=true∨(144115188075855871:Int) < f:=(by assumption);go_ret3;refine ⟨rC ?_,rfl⟩;rw [i.out,<-l.out,zBx (by simp at s⊢;omega)]
   .have n:c=0:=(by assumption);have s:¬(e.toNat:Int)=128:=(by assumption);have u:((e.toNat:Int)==128)=false/\(f:Int)<=144115188075855871:=(by assumption);have v:(e.toNat:Int) < 128:=(by assumption);subst n;go_ret3;refine ⟨aEC (vC f oM t) ?_ (b:=((a+0+1:Nat):Int)) ?_,rfl⟩;push_cast;rfl
    .rw [i.out,<-l.out,zBw zt,zBx oM]
   have n:c=0:=(by assumption);have s:¬(e.toNat:Int)=128:=(by assumption);have u:((e.toNat:Int)==128)=false/\(f:Int)<=144115188075855871:=(by assumption);have v:(128:Int)<=e.toNat:=(by assumption);subst n;refine ⟨⟨0+1,f*128+e.toNat % 128,by omega,rfl,iT (vC f oM t),?_⟩,by simp [intOf];omega⟩;rw [<-l.out,zBw zt,zBw oM];rfl
   .have n:¬c=0:=(by assumption);have s:(144115188075855871:Int) < f:=(by assumption);go_ret3;refine ⟨rC ?_,rfl⟩;rw [i.out,<-l.out,zBx zt]
   .have n:¬c=0:=(by assumption);have u:(f:Int)<=144115188075855871:=(by assumption);have v:(e.toNat:Int) < 128:=(by assumption);go_ret3;refine ⟨aEC (vC f oM t) ?_ (b:=((a+c+1:Nat):Int)) ?_,rfl⟩;push_cast;rfl
    .rw [i.out,<-l.out,zBw zt,zBx oM]
   .have n:¬c=0:=(by assumption);have u:(f:Int)<=144115188075855871:=(by assumption);have v:(128:Int)<=e.toNat:=(by assumption);refine ⟨⟨c+1,f*128+e.toNat % 128,by omega,by go_num,iT (vC f oM t),?_⟩,by simp [intOf];omega⟩;rw [<-l.out,zBw zt,zBw oM];rfl
  .have G:c=g - a:=oM;have M:=lhd G;clear G;go_wp2;go_ret3;refine ⟨rC ?_,rfl⟩;have S:d.drop (a+c)= []:=zFh (by rw [o.out];have:=M.out;omega);rw [i.out,<-l.out,S,fG]
def fZ {e c b i a m d j k g} (n:fF i a=(j,k,g)) (r:Rd d m 1 e c (i.map bv)) (q:c<=b) (o:b<=maxLen):
 Calls prog 198 #[.slice e c b,(a:Int)] d λf l=>f=.returned (.tuple #[.int .u64 j,(k:Int),(g:Int)])/\d=l:=
 (aNF a r q o).mono λf l ⟨p,s⟩=>⟨by rw [p,n];rfl,s⟩
def aI4 {c b a:Nat} (g:c < 256 ^ a) (m:b < 256) (l:a < 4):bits .or .u32 (c:Int) ((b:Int)*2 ^(8*a)% 4294967296)=((c+b*256 ^ a:Nat):Int):=by
 have d:(256:Nat)^ a=2 ^(8*a):=by rw [Nat.pow_mul]
 have e:b*256 ^ a < 4294967296:=by have k:b*256 ^ a<=255*256 ^ a:=zEk _ oM;have i:256 ^ a<=256 ^ 3:=zBp oM oM;omega
 have j:c < 4294967296:=by have i:256 ^ a<=256 ^ 3:=zBp oM oM;omega
 have f:((b:Int)*2 ^(8*a)% 4294967296)=((b*256 ^ a:Nat):Int):=by
  rw [d] at e⊢;have:(b:Int)*2 ^(8*a)=(b*2 ^(8*a):Nat):=by push_cast;rfl
  rw [this];omega
 rw [f,u32_or_nat _ _ j e,Nat.or_comm,nat_join (8*a) (b*256 ^ a) c (by rw [d];exact Nat.mul_mod_left _ _) (by rw [<-d];exact g),zCt]
def aJP (c:Nat) (b):
 Calls prog 80 #[.int .u32 c] b λn m=>∃d,n=.returned d/\m.ownsRow b.heap.size 5 1 d 4 ((nD c).map bv)/\Below b.heap.size b m:=by
 obtain ⟨w,r,t,u,v⟩:=info_parts mB;go_enter func80,ntmps80;go_wp2;go_loopw [0,3,4] (λx d g wr=>∃a:Nat,a<=4/\g=.int .i64 a/\x=.int .u32 (c / 256 ^ a:Nat)/\wr.ownsRow b.heap.size 5 1 d a ((aBC a c).map bv)/\Below b.heap.size b wr) (λ_ _ g _=>4 -(intOf g).toNat)
 case atStart=>exact ⟨0,zAp _,rfl,by simp,ki _ _ _ _,kg _ _⟩
 case round=>
  obtain ⟨a,z,rfl,rfl,f,e⟩:=hrel;have i:=e.size;by_cases A:a < 4
  .generalize j:c / 256 ^ a=l;go_wp2_with (at_builtin;refine bP _ rfl (.tmp 6) (.tmp 9) _ rfl b.heap.size 5 w (.int .u8 0) 1 1 underlying22 r t u v rfl dC u3 a _ rfl f rfl rfl (by simp [Value.oneCell']) zx oM i ?_;intro C D k q B y);have p:=aX e f q i;refine ⟨⟨a+1,by omega,by go_num,iT ?_,?_,p⟩,by simp [intOf];omega⟩;rw [zEM,<-zFg,j];push_cast;rfl;have s:Value.int .u8 ((l:Int)% 256)=bv (UInt8.ofNat (l % 256)):=(by unfold bv;congr 1;simp [zEc]);rw [s] at k;rw [aBC,j];simpa using k
  .have o:a=4:=oM;subst o;go_wp2;go_ret;exact ⟨u3,rfl,f,e⟩
def aCI (d:Nat) (a):
 Calls prog 80 #[.int .u32 d] a λf e=>∃b c,f=.returned (.slice b 4 c)/\Made e a.heap.size 5 1 b 4 c ((nD d).map bv)/\Below a.heap.size a e:=by
 refine (aJP d a).mono λf e ⟨l,i,k,g⟩=>?_;obtain ⟨b,c,rfl,j⟩:=aR k;exact ⟨b,c,i,j,g⟩
def aCW {b:Nat} {d c:Int} {a:Nat×Int} (f:d=(b:Int)) (e:a=(b,c)):Ending.returned (.tuple #[.int .u32 d,(c:Int)])=Ending.returned (.tuple #[.int .u32 a.1,iv a.2]):=by subst e;subst f;rfl
def aOW {q f} (A) {b} (e) {w p} (n:Rd p w 1 q f (b.map bv)) (E:f<=maxLen):
 Calls prog 137 #[.slice q f A,(e:Int)] p λB J=>B=.returned (.tuple #[.int .u32 ((ofB b e).1:Int),iv (ofB b e).2])/\p=J:=by
 unfold maxLen at E;have s:b.length=f:=by simpa using n.1
 obtain ⟨i,y⟩:=hqq2 s n;clear s n;by_cases m:e < 0
 .have d:ofB b e=(0,2):=(by rw [ofB,zBx (.inl m)]);have g:=lhd d;clear d;go_enter func137,ntmps137;go_wp2;go_ret2;exact ⟨aCW rfl g,rfl⟩
 by_cases r:(f:Int) < e
 .have d:ofB b e=(0,2):=(by rw [ofB,zBx (.inr (by rw [i.out];exact r))]);have g:=lhd d;clear d;go_enter func137,ntmps137;go_wp2;go_ret2;exact ⟨aCW rfl g,rfl⟩
 by_cases G:(f:Int) - e < 4
 .have d:ofB b e=(0,4):=(by rw [ofB,zBw (by rw [i.out];omega),zBx (by rw [i.out];omega)]);have g:=lhd d;clear d;go_enter func137,ntmps137;go_wp2;go_ret2;exact ⟨aCW rfl g,rfl⟩
 obtain ⟨c,rfl⟩:=zDB (Int.not_lt.1 m);have d:ofB b (c:Int)=(ofN b c 4,0):=by rw [ofB,zBw (by rw [i.out];omega),zBw (by rw [i.out];omega)];rfl
 have g:=lhd d;have L:c+4<=f:=oM;have N:decide ((c:Int) < 0)=false:=zs
 have O:decide (f < c)=false:=zt
 have P:decide ((f:Int) -c < 4)=false:=zt
 clear d m r G;go_enter func137,ntmps137;go_wp2
 go_loop [6,23] (λI o=>∃a:Nat,a<=4/\o=.int .i64 a/\I=.int .u32 (ofN b c a:Int)) (λ_ o=>4 -(intOf o).toNat)
 case atStart=>exact ⟨0,zAp _,rfl,rfl⟩
 case round=>
  obtain ⟨a,Q,rfl,rfl⟩:=hrel;by_cases F:a < 4
  .obtain ⟨K,R,S,rfl,M,v,D⟩:=y.get (k:=c+a) oM;have j:∃l,b[c+a]?=some l:=⟨b[c+a]'(zj i.out),zAa (zj i.out)⟩;obtain ⟨l,j⟩:=j;simp only [zAf,j,zEq,zEB] at v;subst v;unfold bv at D;have u:ofN b c (a+1)=ofN b c a+l.toNat*256 ^ a:=(by rw [ofN,j];rfl);have t:=aN9 b c a;obtain ⟨z,x⟩:=hqq2 u t;generalize ofN b c a=acc at*
   have H:l.toNat < 256:=l.toNat_lt;clear j u t;go_wp2;refine ⟨⟨a+1,by omega,by go_num,iT ?_⟩,by simp [intOf];omega⟩;rw [z.out];exact aI4 x H F
  .have C:a=4:=oM;subst C;go_wp2;go_ret2;exact ⟨aCW rfl g,rfl⟩
def aPi {A m} (a) {l at_ B w n k} (d:ofB l at_=(n,k)) (g:Rd w B 1 A m (l.map bv)) (e:m<=maxLen):
 Calls prog 137 #[.slice A m a,(at_:Int)] w λb c=>b=.returned (.tuple #[.int .u32 n,(k:Int)])/\w=c:=
 (aOW a at_ g e).mono λb c ⟨f,i⟩=>⟨by rw [f,d];rfl,i⟩
def jO (a:Int×Nat):List Value:= [iv a.1,iv (a.2:Int)]
def bO (a:List (Int×Nat)):List Value:=a.flatMap jO
def kO (a:List (Int×Nat)):(bO a).length=a.length*2:=by
 induction a with
 | nil=>rfl
 | cons b a d=>
  have c:bO (b::a)=jO b++bO a:=(by simp [bO]);rw [c,zAi,d,zCg];simp [jO];omega
def eJ (a b:List (Int×Nat)):bO (a++b)=bO a++bO b:=by simp [bO,zDI]
def eM (b:List (Int×Nat)) (a d) (g:Int×Nat) (c:b[a]?=some g) (k:d < 2):(bO b)[a*2+d]?=(jO g)[d]?:=by
 induction b generalizing a with
 | nil=>simp at c
 | cons e b j=>
  have f:bO (e::b)=jO e++bO b:=(by simp [bO]);have i:(jO e).length=2:=rfl;rcases a with _ | a
  .simp at c;subst c;rw [f,zFH,zBi,zAn oM]
  simp only [zCf] at c;rw [f,zAo oM,i,show (a+1)*2+d - 2=a*2+d by omega];exact j a c
def aKx:(prog.info? 175).map (λa=>(a.zero,a.size,a.bytes))=some (some (.agg #[o0,o0]),2,16):=by kernel_rfl
def aOV {H j} (W) {I f g} (D:Rd g I 1 H j (f.map iv)) (hB:I<=g.heap.size) (au:j<=1099511627776):
 Calls prog 142 #[.slice H j W] g λY T=>∃v,Y=.returned v/\T.ownsRow g.heap.size 175 2 v (bI f).length (bO (bI f))/\Below g.heap.size g T:=by
 obtain ⟨S,J,P,Q,R⟩:=info_parts aKx;have A:f.length=j:=by simpa using D.1
 have V:=(D.mono hB);clear D;go_enter func142,ntmps142;go_wp2;go_loopw [3,9] (λv G wr=>∃c:Nat,c<=j/\G=.int .i64 c/\wr.ownsRow g.heap.size 175 2 v (bI (f.take c)).length (bO (bI (f.take c)))/\Below g.heap.size g wr) (λ_ G _=>j -(intOf G).toNat)
 case atStart=>exact ⟨0,zAp _,rfl,ki _ _ _ _,kg _ _⟩
 case round=>
  obtain ⟨c,ar,rfl,e,n⟩:=hrel;have t:=n.size;by_cases aa:c < j
  .obtain ⟨o,E⟩:∃o,f[c]?=some o:=⟨f[c]'(zj A),zAa (zj A)⟩;obtain ⟨ai,ay,az,rfl,an,F,a5⟩:=(V.below n).get aa;rw [zAf,E] at F;simp at F;subst F;unfold iv at a5;have B:=xP E;have L:=jG (f.take c);rw [zAj] at L;have z:∀b∈bI (f.take c),b.2<=j:=λb ae=>by have:=lF ae;rw [zAj] at this;omega
   generalize bI (f.take c)=r at*
   clear E;rcases zDL r with rfl |⟨k,⟨b,d⟩,rfl⟩
   .obtain ⟨U,X,rfl,ab⟩:=aR e;have a9:([]:List (Int×Nat)).length=0:=rfl;rw [a9] at*
    clear ab z;go_wp2_with (at_builtin;refine bP _ rfl (.tmp 36) (.tmp 39) _ rfl g.heap.size 175 S _ 2 16 underlying173 J P Q R rfl dC (.slice U 0 X) 0 _ rfl e rfl rfl (by simp [Value.oneCell']) zx oM t ?_;intro ag ah C q ac x);have y:=aX n e q t;clear q x;go_roundw
    case rel=>refine ⟨c+1,by omega,by go_num,?_,y⟩;rw [B,xQ];exact C
    case measure=>exact zr
   .rw [zDW] at*
    obtain ⟨a,m⟩:=eqx k.length;have K:(k++ [(b,d)]).length=a+1:=(by simp [m]);rw [K] at e L;obtain ⟨i,l,s,rfl,a6,a7,aw,ao,_⟩:∃i l s,u3=.slice (some ⟨i,0,none⟩) (a+1) l/\g.heap.size<=i/\wr.heap[i]?=some (.cells s 175 (0,0))/\a+1<=l/\l<=maxLen/\True:=(by rcases e.2 with ⟨_,am⟩|⟨i,l,s,a0,a1,a2,a3,a4,_⟩;omega;exact ⟨i,l,s,a0,a1,a2,a3,a4,trivial⟩);have N:(bO (k++ [(b,d)]))[a*2]?=some (iv b):=(by have:=eM (k++ [(b,d)]) a 0 (b,d) (by rw [zAo oM,m];simp) oM;simpa [jO] using this);have O:(bO (k++ [(b,d)]))[a*2+1]?=some (iv d):=(by have:=eM (k++ [(b,d)]) a 1 (b,d) (by rw [zAo oM,m];simp) oM;simpa [jO] using this);have ak:wr.cell? ⟨i,a*2,none⟩=some (.int .i64 b):=(e.cellAt (a*2) oM).trans N;have al:wr.cell? ⟨i,a*2+1,none⟩=some (.int .i64 d):=(e.cellAt (a*2+1) oM).trans O;have aj:=e.frozenAt (a*2+1);have av:(d:Int)<=1099511627776:=(by have:=z (b,d) zs;simp only at this;omega);have ax:((a+1:Nat):Int) - 1=a:=oM;clear N O K a7 z;by_cases u:b=o
    .have af:(b==o)=true:=(by rw [zCr];exact u);go_wp2;obtain ⟨ad,aq⟩:=e.stored (a*2+1) (.int .i64 ((d:Int)+1));refine ⟨⟨c+1,by omega,by go_num,?_,n.setCell (p:=⟨i,a*2+1,none⟩) a6 _⟩,by simp [intOf];omega⟩;rw [B,<-u,gL];have w:(k++ [(b,d+1)]).length=a+1:=(by simp [m]);have Z:(bO (k++ [(b,d)])).set (a*2+1) (.int .i64 ((d:Int)+1))=bO (k++ [(b,d+1)]):=(by rw [eJ,eJ,zEs _ _ (by rw [kO,m];omega),kO,m];congr 1;rw [show a*2+1 - a*2=1 by omega];rfl);rw [w,<-Z];exact ad
    .have af:(b==o)=false:=(by rw [zCb];exact u);go_wp2_with (at_builtin;refine bP _ rfl (.tmp 36) (.tmp 39) _ rfl g.heap.size 175 S _ 2 16 underlying173 J P Q R rfl dC (.slice (some ⟨i,0,none⟩) (a+1) l) (a+1) _ rfl e rfl rfl (by simp [Value.oneCell']) zx oM t ?_;intro ag ah C q ac x);have y:=aX n e q t;clear q x;go_roundw
     case rel=>refine ⟨c+1,by omega,by go_num,?_,y⟩;rw [B,fT _ _ u,eJ];have w:(k++ [(b,d)]++ [(o,1)]).length=a+1+1:=(by simp [m]);rw [w];exact C
     case measure=>exact zr
  .have a8:c=j:=oM;have M:f.take c=f:=zAg (zj A);have ap:j<=c:=oM;rw [M] at e;clear a8 M;go_wp2;go_ret;exact ⟨u3,rfl,e,n⟩
def aMe {j e} (l) {k n a} {g:List (Int×Nat)} (f) (o:bI n=g) (r:g.length=f) (t:Rd a k 1 j e (n.map iv)) (hB:k<=a.heap.size) (d:e<=1099511627776):
 Calls prog 142 #[.slice j e l] a λm i=>∃b c,m=.returned (.slice b f c)/\Made i a.heap.size 175 2 b f c (bO g)/\Below a.heap.size a i:=by
 subst o;subst r;refine (aOV l t hB d).mono λm i ⟨u,q,s,p⟩=>?_;obtain ⟨b,c,rfl,d⟩:=aR s;exact ⟨b,c,q,d,p⟩
def aCT:(prog.info? 3).map (λa=>(a.zero,a.size,a.bytes))=some (some (.int .i64 0),1,8):=by kernel_rfl
def aIx {b} {a:Int×Nat} (c:a∈bI b):a.1∈b:=by
 have e:=(wI b).1 a c;have d:a.1∈eV (bI b):=zGu.2 ⟨a,c,zGg.2 ⟨by omega,rfl⟩⟩;rwa [kA] at d
def aEh {b} (c:∀a∈b,a < 257):∀a∈bI (jC b),fJ a.1:=by
 intro a d;obtain ⟨f,e,g⟩:=zAy.1 (aIx d);have:=c f e;unfold fJ;omega
def qY (a):(jC a).length=a.length:=by simp [jC]
def aAz {a} (b:∀c∈a,c < 257):lY (jC a)=some (gS a):=by
 unfold lY;rw [zBx (aEh b)];rfl
def oK (a):(gS a).length<=11+22*a.length:=by
 unfold gS;have d:=qC (bI (jC a));have c:=jG (jC a);have e:=bX (bI (jC a)).length;rw [qY] at c;have b:eO (bI (jC a))=bW (bI (jC a)).length++(bI (jC a)).flatMap cB:=by simp [eO]
 rw [b,zAi];omega
def uC (c:List Nat) (b a:Nat):List UInt8:=(List.range a).flatMap λa=>bW (c.idxOf (a*b))
def qZ (c b a):uC c b (a+1)=uC c b a++bW (c.idxOf (a*b)):=by
 unfold uC;rw [zDx,zDI];simp
def pM (c b a):(uC c b a).length<=11*a:=by
 induction a with
 | zero=>simp [uC]
 | succ a d=>
  rw [qZ,zAi];have:=bX (c.idxOf (a*b));omega
def zB (c a b):yO c a b=uC c a (b / a+1):=rfl
def aMI (c b a):a<=(uC c b a).length:=by
 induction a with
 | zero=>simp
 | succ a d=>
  rw [qZ,zAi];have:=aLJ (c.idxOf (a*b));omega
def aOj {c a b} (g:1<=a) (f:c<=b / a+1) (d:¬c*a<=b):c=b / a+1:=by
 have e:b / a < c:=(zEP oM).2 oM;omega
def aK8 {c a b} (e:1<=a) (d:c*a<=b):c+1<=b / a+1:=by
 have:=(Nat.le_div_iff_mul_le oM).2 d;omega
def aIr {a} (b) (d:fJ a):Calls prog 127 #[(a:Int)] b λc e=>c=.returned (.bool true)/\b=e:=by
 obtain ⟨f,g⟩:=d;go_enter func127,ntmps127;go_wp2;go_ret;exact ⟨bH (by simp <;> omega),rfl⟩
def aKg {a} (b) (d:¬fJ a):Calls prog 127 #[(a:Int)] b λc g=>c=.returned (.bool false)/\b=g:=by
 have e:a < 0∨(0<=a/\257<=a):=by unfold fJ at d;omega
 rcases e with f |⟨f,i⟩
 .go_enter func127,ntmps127;go_wp2;go_ret;exact ⟨bH (by simp <;> omega),rfl⟩
 .go_enter func127,ntmps127;go_wp2;go_ret;exact ⟨bH (by simp <;> omega),rfl⟩
def aNz (f g:World) (e:Option (List UInt8)) (d:Ending):Prop:=
 (∃a b c,e=some a/\d=.returned (.tuple #[.slice b a.length c,o0])/\Made g f.heap.size 5 1 b a.length c (a.map bv))∨
 (e=none/\d=.returned (.tuple #[(),(1:Int)]))
def aHq (M y ad) {B} (i) {w} (a0:Rd w B 1 M y (i.map iv)) (hB:B<=w.heap.size) (aW:y<=1000000):
 Calls prog 75 #[.slice M y ad] w λm a5=>aNz w a5 (lY i) m/\Below w.heap.size w a5:=by
 obtain ⟨aJ,aq,aG,aH,aI⟩:=info_parts mB;have aw:i.length=y:=by simpa using a0.1
 obtain ⟨b,v⟩:=eqx (bI i);obtain ⟨c,n⟩:=eqx b.length;have aY:c<=1000000:=by have:=jG i;rw [v] at this;omega
 have ao:∀d∈b,d.2<=1000000:=λd e=>by have:=lF (l:=i) (x:=d) (by rw [v];exact e);omega
 have Y:lY i=if ∀d∈b,fJ d.1 then some (eO b) else none:=by unfold lY;rw [v]
 have aO:=kg w.heap.size w;clear aw;go_enter func75,ntmps75;go_wp2_with fail;refine (aMe _ c v n a0 hB oM).mono ?_;rintro m w1 ⟨z,A,rfl,U,E⟩;have aC:=E.size;have aa:=U.own;clear U;obtain ⟨k0,R⟩:=eqx ((bW c).length);have aU:k0<=11:=by rw [<-R];exact bX c
 go_wp2_with fail;refine (aBd _ (tH c) R (Rd.made _ _ 1 1 _ rfl) nL zt oM).mono ?_;rintro m K ⟨a8,af,rfl,V,s⟩;have P:=(E.alloc aC _).trans (s.mono zt);have b1:=P.size;have b0:w1.heap.size < K.heap.size:=by have:=s.size;simp at this;omega
 have az:K.ownsRow w.heap.size 5 1 (.slice a8 k0 af) k0 ((bW c).map bv):=cG V.own zt;have g:K.ownsRow w.heap.size 175 2 (.slice z c A) c (bO b):=aP (aa.alloc _) s;clear V s E;go_wp2_with fail;go_loopw [5,17] (λaL I wr=>∃a k:Nat,a<=c/\I=.int .i64 a/\wr.ownsRow w.heap.size 5 1 aL k ((bW c++(b.take a).flatMap cB).map bv)/\wr.ownsRow w.heap.size 175 2 (.slice z c A) c (bO b)/\Below w.heap.size w wr/\∀d∈b.take a,fJ d.1) (λ_ I _=>c -(intOf I).toNat)
 case atStart=>exact ⟨0,k0,zAp _,rfl,by simpa using az,g,P,by simp⟩
 case round=>
  obtain ⟨a,k,aT,rfl,p,g,r,G⟩:=hrel;have a2:=r.size;have aZ:k<=22000011:=by have D:=p.1;have O:=qC (b.take a);have aj:=bX c;rw [zAj] at O;simp only [zBc,zAi] at D;omega
  by_cases T:a < c
  .obtain ⟨d,e⟩:∃d,b[a]?=some d:=⟨b[a]'(zj n),zAa (zj n)⟩;obtain ⟨f,ak,aS⟩:∃f,z=some ⟨f,0,none⟩/\f < wr.heap.size:=(by obtain ⟨f,aN,aD,_,T⟩:=g.form oM;injection aD with D O aj;exact ⟨f,D,T⟩);subst ak;have ah:wr.cell? ⟨f,a*2,none⟩=some (.int .i64 d.1):=(g.cellAt (a*2) oM).trans ((eM b a 0 d e oM).trans rfl);have ai:wr.cell? ⟨f,a*2+1,none⟩=some (.int .i64 d.2):=(g.cellAt (a*2+1) oM).trans ((eM b a 1 d e oM).trans rfl);have ay:=sF e;have aE:=ao d (zAd e);have ar:∀j∈b.take (a+1),j∈b.take a∨j=d:=(by intro j a4;have au:a < b.length:=(zAc.1 e).1;rw [zDo au,(zAc.1 e).2] at a4;simpa using a4);have ax:=zAd e;obtain ⟨aK,j⟩:=d;simp only at ah ai aE;clear e;by_cases o:fJ aK
   .obtain ⟨q,rfl⟩:=zDB o.1;have b2:(q:Int) < 257:=o.2;obtain ⟨J,S⟩:=eqx ((cB ((q:Int),j)).length);have aV:J<=22:=(by rw [<-S];exact xR _);have ap:dZ [q,j]=cB ((q:Int),j):=(by simp [dZ,cB]);go_wp2_with (go_at_call 127;refine (aIr _ o).mono ?_;rintro m aM ⟨rfl,rfl⟩);refine (aBd _ ap S (Rd.bt _ _ 1 2 _ _ rfl zs) nL zt oM).mono ?_;rintro m L ⟨a9,ag,rfl,X,t⟩;have Q:=((r.alloc a2 _).alloc zt _).trans (t.mono zt);have a1:=Q.size;have u:L.ownsRow w.heap.size 5 1 u5 k ((bW c++(b.take a).flatMap cB).map bv):=aP ((p.alloc _).alloc _) t;have H:L.ownsRow w.heap.size 175 2 (.slice (some ⟨f,0,none⟩) c A) c (bO b):=aP ((g.alloc _).alloc _) t;have ac:=X.rd;have ab:=(jI (cB ((q:Int),j)));clear X t p g;go_wp2_with (at_builtin;refine bE _ rfl (.tmp 25) (.tmp 33) _ rfl w.heap.size 5 aJ (.int .u8 0) 1 1 underlying22 aq aG aH aI rfl dC u5 k _ rfl u L.heap.size a9 J ag _ rfl ac ab zx oM a1 ?_;intro b3 b4 aA F an);have al:=aX Q u F a1;have aB:=H.kept F (aGE H u dC);clear F an H u;go_roundw
    case rel=>refine ⟨a+1,k+J,by omega,by go_num,?_,aB,al,?_⟩;rw [ay,<-zCo,zAz];exact aA;intro a6 aF;rcases ar a6 aF with C | C;exact G a6 C;rw [C];exact o
    case measure=>exact zr
   .have N:=o;clear o;go_wp2_with (go_at_call 127;refine (aKg _ N).mono ?_;rintro m aM ⟨rfl,rfl⟩);go_ret2;refine ⟨.inr ⟨?_,rfl⟩,r.alloc a2 _⟩;rw [Y,zBw];intro am;exact N (am _ ax)
  .have av:a=c:=oM;have aQ:c<=a:=oM;have a3:b.take a=b:=zAg (zj n);rw [a3] at p G;clear av a3 g;obtain ⟨a7,ae,rfl,W⟩:=aR p;go_wp2;go_ret2;have Z:(eO b).length=k:=(by have:=W.len;rw [zBc] at this;rw [<-this,eO,n]);refine ⟨.inl ⟨eO b,a7,ae,?_,?_,?_⟩,r⟩
   .rw [Y,zBx G]
   rw [Z];rfl;rw [Z,eO,n];exact W
def aD2 (e f:World) (a:List Int×Int) (d:Ending):Prop:=
 ∃b c,d=.returned (.tuple #[.slice b a.1.length c,(a.2:Int)])/\Made f e.heap.size 3 1 b a.1.length c (a.1.map iv)
def iN {d e} {b:List Int×Int} {a} (c:([],a)=b):aD2 d e b (.returned (.tuple #[(),(a:Int)])):=by
 subst c;exact ⟨none,0,rfl,⟨ki _ _ _ _,Rd.nil _ _ _ _,zAs _,zAp _⟩⟩
def yI {X r Q m aA i} {C:TypeInfo} (al:prog.info? 3=some C) (ar:C.zero=some (.int .i64 0)) (au:C.size=1) (av:C.bytes=8) (z:Hid (m.length=r)) (Z:Hid (Rd i i.heap.size 1 X r (m.map bv))) (ad:Below i.heap.size i i) (g:r<=Q) (f:Q<=maxLen) {s:List Int×Int} {P E} (af:E<=r) (a9:Hid (fF m 0=(P,(E:Int),0))) (ab:Hid (P < 18446744073709551616)) {d} (aa:Hid (rgo m d P E 257 []=s)) (aJ:d<=1099511627776) (a1:aA=(d:Int)∨(aA < 0/\d<=0)):
 Calls prog 140 #[.slice X r Q,(aA:Int)] i λa a7=>aD2 i a7 s a/\Below i.heap.size i a7:=by
 go_enter func140,ntmps140;go_wp2_with (go_at_call 198;refine (fZ a9 Z g f).mono ?_;rintro a l ⟨rfl,rfl⟩);go_loopw [6,7,9,10] (λW ax V ay wr=>∃(p n q:Nat) (j:List Int),W=.int .u64 p/\ax=.int .i64 n/\ay=.int .u64 q/\wr.ownsRow i.heap.size 3 1 V j.length (j.map iv)/\j.length<=d/\n<=r/\p < 18446744073709551616/\rgo m d p n q j=s/\Below i.heap.size i wr) (λW _ _ _ _=>(intOf W).toNat)
 case atStart=>exact ⟨P,E,257, [],rfl,rfl,rfl,ki _ _ _ _,zAp _,af,ab,aa,ad⟩
 case round=>
  obtain ⟨p,n,q,j,rfl,rfl,rfl,B,ag,ae,an,x,o⟩:=hrel;have aL:=o.size;have k:=Z.below o;rcases p with _ | p
  .have aF:((0:Nat):Int)=0:=rfl;by_cases J:n=r
   .have e:(j,0)=s:=(by rw [<-x,rgo,zBx (by rw [z.out];exact J)]);have ht:((n:Int)==r)=true:=(by rw [zCr];omega);obtain ⟨Y,a0,rfl,T⟩:=aR B;clear J B;go_wp2;go_ret2;refine ⟨?_,o⟩;rw [<-e];exact ⟨Y,a0,rfl,T⟩
   .have e:([],4)=s:=(by rw [<-x,rgo,zBw (by rw [z.out];exact J)]);have ht:((n:Int)==r)=false:=(by rw [zCb];omega);clear J;go_wp2;go_ret2;exact ⟨iN e,o⟩
  .have A:n<=m.length:=(by rw [z.out];exact ae);rcases h1:fG (m.drop n) true 0 n with _ |⟨b,D⟩
   .have e:([],4)=s:=(by rw [<-x,aEB _ _ _ _ (aEt h1)]);have u:=(tG A h1);clear A h1;go_wp2_with (go_at_call 198;refine (fZ u k g f).mono ?_;rintro a l ⟨rfl,rfl⟩);go_ret2;exact ⟨iN e,o⟩
   .have L:=aAy _ _ _ _ _ _ h1;have w:=tF b D A h1;have aq:D<=r:=(by rw [zAw,z.out] at L;omega);have O:D<=m.length:=(by rw [z.out];exact aq);have u:=w;have aB:=L.2.2;rcases h2:fG (m.drop D) true 0 D with _ |⟨c,a⟩
    .have e:([],4)=s:=(by rw [<-x,aEB _ _ _ _ (aEs h1 h2)]);have v:=(tG O h2);clear A h1 h2 w L O;go_wp2_with fail;refine (fZ u k g f).mono ?_;rintro a l ⟨rfl,rfl⟩;go_wp2_with fail;refine (fZ v k g f).mono ?_;rintro a l ⟨rfl,rfl⟩;go_wp2;go_ret2;exact ⟨iN e,o⟩
    .have S:=aAy _ _ _ _ _ _ h2;have G:=tF c a O h2;have aj:a<=r:=(by rw [zAw,z.out] at S;omega);have v:=G;have a4:rgo m d (p+1) n q j=if 257<=b∨b=q∨c=0 then ([],4) else if d - j.length < c then ([],3) else rgo m d p a b (j++List.replicate c (b:Int)):=aEA _ _ _ _ (aAa h1 h2);have az:=S.2.2;clear A h1 h2 w L O G S;by_cases H:257<=b∨b=q∨c=0
     .have e:([],4)=s:=(by rw [<-x,a4,zBx H]);have ai:257<=b∨(b < 257/\b=q)∨(b < 257/\b≠q/\c=0):=oM;clear H;rcases ai with F |⟨F,R⟩|⟨F,R,ac⟩
      .go_wp2_with fail;refine (fZ u k g f).mono ?_;rintro a l ⟨rfl,rfl⟩;go_wp2_with fail;refine (fZ v k g f).mono ?_;rintro a l ⟨rfl,rfl⟩;go_wp2;go_ret2;exact ⟨iN e,o⟩
      .subst R;go_wp2_with fail;refine (fZ u k g f).mono ?_;rintro a l ⟨rfl,rfl⟩;go_wp2_with fail;refine (fZ v k g f).mono ?_;rintro a l ⟨rfl,rfl⟩;go_wp2;go_ret2;exact ⟨iN e,o⟩
      .subst ac;have ht:((b:Int)==q)=false:=(by rw [zCb];omega);clear R;go_wp2_with fail;refine (fZ u k g f).mono ?_;rintro a l ⟨rfl,rfl⟩;go_wp2_with fail;refine (fZ v k g f).mono ?_;rintro a l ⟨rfl,rfl⟩;go_wp2;go_ret2;exact ⟨iN e,o⟩
     .have aC:b < 257:=oM;have aI:0 < c:=oM;have aM:((c:Int)==0)=false:=(by rw [zCb];omega);have aN:=zn ((257:Int)<=b);have ht:((b:Int)==q)=false:=(by rw [zCb];omega);obtain ⟨y,N⟩:=eqx j.length;have a5:rgo m d (p+1) n q j=if d - y < c then ([],3) else rgo m d p a b (j++List.replicate c (b:Int)):=(by rw [a4,zBw H,N]);rw [N] at B ag;obtain ⟨Y,a0,rfl,T⟩:=aR B;have ao:=an;have am:∃aw:Int,aw=d -(y:Int):=⟨_,rfl⟩;clear H T am;by_cases K:d - y < c
      .have e:([],3)=s:=(by rw [<-x,a5,zBx K]);have ak:(d:Int) -y < c:=oM;clear K ao;rcases a1 with I |⟨I,aD⟩
       .subst I;go_wp2_with fail;refine (fZ u k g f).mono ?_;rintro a l ⟨rfl,rfl⟩;go_wp2_with fail;refine (fZ v k g f).mono ?_;rintro a l ⟨rfl,rfl⟩;go_wp2;go_ret2;exact ⟨iN e,o⟩
       .go_wp2_with fail;refine (fZ u k g f).mono ?_;rintro a l ⟨rfl,rfl⟩;go_wp2_with fail;refine (fZ v k g f).mono ?_;rintro a l ⟨rfl,rfl⟩;go_wp2;go_ret2;exact ⟨iN e,o⟩
      .have e:rgo m d p a b (j++List.replicate c (b:Int))=s:=(by rw [<-x,a5,zBw K]);have ak:(c:Int)<=d -y:=oM;have I:aA=d:=(by rcases a1 with F |⟨_,F⟩<;> omega);subst I;clear K;go_wp2_with fail;refine (fZ u k g f).mono ?_;rintro a l ⟨rfl,rfl⟩;go_wp2_with fail;refine (fZ v k g f).mono ?_;rintro a l ⟨rfl,rfl⟩;go_wp2;go_loopw [9,73] (λV U a8=>∃t:Nat,t<=c/\U=.int .u64 t/\a8.ownsRow i.heap.size 3 1 V (y+t) ((j++List.replicate t (b:Int)).map iv)/\Below i.heap.size i a8) (λ_ U _=>c -(intOf U).toNat)
       case atStart=>exact ⟨0,zAp _,rfl,by simpa using B,o⟩
       case round=>
        obtain ⟨t,aG,rfl,M,w⟩:=hrel;have a6:=w.size;by_cases aH:t < c
        .go_wp2_with (at_builtin;refine bP _ rfl (.tmp 75) (.tmp 78) _ rfl i.heap.size 3 C (.int .i64 0) 1 8 underlying27 al ar au av rfl dC u9 (y+t) _ rfl M rfl rfl (by simp [Value.oneCell']) zx oM a6 ?_;intro aO aP ap a2 aK ah);have G:=aX w M a2 a6;clear a2 ah;go_roundw
         case rel=>refine ⟨t+1,by omega,by go_num,?_,G⟩;rw [List.replicate_succ',<-zCo,zAz];exact ap
         case measure=>exact zr
        .have a3:t=c:=oM;have aE:c<=t:=oM;rw [a3] at M;clear a3;go_wp2;refine ⟨⟨p,a,b,j++List.replicate c (b:Int),iT oM,rfl,rfl,?_,?_,aj,by omega,e,w⟩,by simp [intOf]⟩;rw [zAi,zCn,N];exact M;rw [zAi,zCn,N];omega
def aHr {s e l t a aA b} (j:Rd b t 1 s e (a.map bv)) (hB:t<=b.heap.size) (q:e<=l) (o:l<=maxLen) (I:aA<=1099511627776) (J:-9223372036854775808<=aA):
 Calls prog 140 #[.slice s e l,(aA:Int)] b λx G=>aD2 b G (oI a aA) x/\Below b.heap.size b G:=by
 obtain ⟨M,z,D,E,F⟩:=info_parts aCT;have p:a.length=e:=by simpa using j.1
 have u:=p;have k:=(j.mono hB);have m:=kg b.heap.size b;obtain ⟨w,d⟩:=eqx (oI a aA);rw [d];rcases hfirst:fG a true 0 0 with _ |⟨r,g⟩
 .have i:fF a 0=(0,0,4):=tG (zAp _) (by simpa using hfirst);have c:([],4)=w:=(by rw [<-d,oI,hfirst]);clear j p d hfirst;go_enter func140,ntmps140;go_wp2_with (go_at_call 198;refine (fZ i k q o).mono ?_;rintro x N ⟨rfl,rfl⟩)
  go_loop [6] (λL=>L=.int .u64 0) (λ_=>0)
  case atStart=>rfl
  case round=>subst hrel;go_wp2;go_ret2;exact ⟨iN c,m⟩
 have A:=aAy _ _ _ _ _ _ hfirst;have i:fF a 0=(r,(g:Int),0):=tF r g (zAp _) (by simpa using hfirst);have c:rgo a aA.toNat r g 257 []=w:=(by rw [<-d,oI,hfirst]);have y:g<=e:=oM;have v:=A.2.2;obtain ⟨f,C⟩:∃f:Nat,aA.toNat=f:=⟨_,rfl⟩;rw [C] at c;have B:f<=1099511627776:=oM;have n:aA=f∨(aA < 0/\f<=0):=oM;clear j p d hfirst A C I J;rcases n with n |⟨K,H⟩;subst n;exact yI z D E F u k m q o y i v c B (.inl rfl);exact yI z D E F u k m q o y i v c B (.inr ⟨K,H⟩)
def aJG {A m c B b aA w l} (e) {k} (n:oI b aA=(l,k)) (t:l.length=e) (u:Rd w B 1 A m (b.map bv)) (hB:B<=w.heap.size) (q:m<=c) (p:c<=maxLen) (r:aA<=1099511627776) (s:-9223372036854775808<=aA):
 Calls prog 140 #[.slice A m c,(aA:Int)] w λg f=>∃a d,g=.returned (.tuple #[.slice a e d,(k:Int)])/\Made f w.heap.size 3 1 a e d (l.map iv)/\Below w.heap.size w f:=by
 subst t;refine (aHr u hB q p r s).mono λg f ⟨⟨a,d,i,j⟩,o⟩=>?_;rw [n] at i j;exact ⟨a,d,i,j,o⟩
def fY (b a:List UInt8) (d:Nat):List Nat:=(List.range d).filter λc=>a.isPrefixOf (b.drop c)
def dY (b a:List UInt8):List Nat:=fY b a (b.length+1 - a.length)
def nv (a:Nat):Value:=iv (a:Int)
def aAA {c b a} (d:b.isPrefixOf (c.drop a)=true):fY c b (a+1)=fY c b a++ [a]:=by
 simp [fY,zDx,zEe,d]
def wQ (b a c) (d:a.isPrefixOf (b.drop c)=false):fY b a (c+1)=fY b a c:=by
 simp [fY,zDx,zEe,d]
def wR (c b a):(fY c b a).length<=a:=by
 have:=zCw (λd=>b.isPrefixOf (c.drop d)) (List.range a);rw [zCi] at this;exact this
structure Told where
 code:Int
 num:Int
 data:List UInt8
 places:List Nat
def iD (a:Told) (b:Option Addr) (d:Nat) (c:Option Addr) (e:Nat):Array Value:=#[.int .i64 a.code,.int .i64 a.num,.slice b a.data.length d,.slice c a.places.length e]
def bK (d e c:Int) (a:Option Addr) (nd b:Nat):Value:=.agg #[(d:Int),(e:Int),(c:Int),.slice a nd b]
def aV (c a b):Made c a b 1 none 0 0 []:=⟨ki _ _ _ _,Rd.nil _ _ _ _,zAs _,zAp _⟩
def dK (c:Nat) (a b:Int):Bool:=decide (0<=a/\0<=b/\a<=(c:Int)/\b<=(c:Int) - a)
def doM (a:List UInt8) (aA d b e:Int) (c:List UInt8):List UInt8×Told:=
 if d=1 then
  if dK a.length b 0=false then (a,⟨2,0, [], []⟩) else if aA -(a.length:Int) < c.length then (a,⟨3,0, [], []⟩) else (a.take b.toNat++(c++a.drop b.toNat),⟨0,0, [], []⟩)
 else if d=2 then
  if dK a.length b e=false then (a,⟨2,0, [], []⟩) else (a.take b.toNat++a.drop (b.toNat+e.toNat),⟨0,0, [], []⟩)
 else if d=5 then
  if dK a.length b e=false then (a,⟨2,0, [], []⟩) else (a,⟨0,0,(a.drop b.toNat).take e.toNat, []⟩)
 else if d=3 then
  if dK a.length b (c.length:Int)=false then (a,⟨2,0, [], []⟩) else (a.take b.toNat++(c++a.drop (b.toNat+c.length)),⟨0,0, [], []⟩)
 else if d=4 then (a,⟨0,(a.length:Int), [], []⟩)
 else if d=6 then (a,⟨0,((dY a c).length:Int), [], []⟩)
 else if d=7 then (a,⟨0,((dY a c).length:Int), [],dY a c⟩)
 else if d=8 then (a,⟨0,0, [], []⟩)
 else (a,⟨1,0, [], []⟩)
def dT {f b a} (e:dK f b a=true):∃c d:Nat,b=(c:Int)/\a=(d:Int)/\c+d<=f:=by
 unfold dK at e;have:=of_decide_eq_true e;exact ⟨b.toNat,a.toNat,by omega,by omega,by omega⟩
def yQ (b:List UInt8) (a:Nat) (c:List UInt8):List UInt8:=b.take a++(c++b.drop a)
def aLh (a b):yQ a b []=a:=by
 unfold yQ;rw [zDH,zAu]
def uP {t k} (a) (b:k<=t.length):(yQ t k a).length=t.length+a.length:=by
 unfold yQ;rw [zAi,zAi,zAj,zAw];omega
def aLi {t a} (b c) (e:a<=t.length):aT (yQ t a b) (a+b.length) c=yQ t a (b++ [c]):=by
 have d:(t.take a).length=a:=by rw [zAj];omega
 unfold aT yQ;rw [zEI,zFE,d,zDP,zDi nL,zFf,zDC nL,List.drop_length,zAg oM,zEE oM];simp
def aLM {t:List UInt8} {a b:Nat} (d:a+b < t.length):aK (t.take a++t.drop (a+b)) a=t.take a++t.drop (a+(b+1)):=by
 have c:(t.take a).length=a:=by rw [zAj];omega
 unfold aK;rw [zDi oM,zAg oM,zFE,c,zEE oM,show a+1 - a=1 by omega,zDH,zFB];rfl
def cut_len (a:List UInt8) {p j:Nat} (b:p+j<=a.length):(a.take p++a.drop (p+j)).length=a.length - j:=by
 rw [zAi,zAj,zAw];omega
def fR {a:World} {f e:Nat} {b:Option Addr} {d:List UInt8} (g:Rd a f 1 b e (d.map bv)):∀c,(convert 22 9 (.slice b e c)).run prog a=.ok (.string ⟨d.toArray⟩) a:=
 λc=>nX (P:=prog) 22 9 5 underlying22 underlying5 underlying9 g
end Go.Proofs.YtknjfpcdhdmghaaGreatDoor
