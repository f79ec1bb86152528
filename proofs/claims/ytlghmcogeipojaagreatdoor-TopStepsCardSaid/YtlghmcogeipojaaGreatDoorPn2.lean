/- Lemmas of the walk. Conditions: each its own. -/
import Derived.Test.YtlghmcogeipojaaGreatDoorPn1
set_option linter.all false
set_option maxRecDepth 100000
set_option maxHeartbeats 4000000
open Go.Proofs.Tryz
namespace Go.Proofs.YtlghmcogeipojaaGreatDoor
open Go.RowKit
def mB:(prog.info? 5).map (λa=>(a.zero,a.size,a.bytes))=some (some (.int .u8 0),1,1):=by kernel_rfl
def uv (a:Nat):Value:=.int .u64 a
def aNO (a:Nat):bits .or .u8 ((a:Int)% 256) 128=((a % 128+128:Nat):Int):=by
 have c:∀b:Fin 256,bits .or .u8 ((b.val:Nat):Int) 128=((b.val % 128+128:Nat):Int):=by decide+kernel
 have:=c ⟨a % 256,by omega⟩;simp only at this;rw [show ((a:Int)% 256)=((a % 256:Nat):Int) by omega,this];omega
def aOS (a:Nat):bits .and .u8 ((a:Int)% 256) 127=((a % 128:Nat):Int):=by
 have c:∀b:Fin 256,bits .and .u8 ((b.val:Nat):Int) 127=((b.val % 128:Nat):Int):=by decide+kernel
 have:=c ⟨a % 256,by omega⟩;simp only at this;rw [show ((a:Int)% 256)=((a % 256:Nat):Int) by omega,this];omega
def aPf (b a:Nat):Value.int .u8 (bits .or .u8 ((b:Int)/ 2 ^ a % 256) 128)=bv (UInt8.ofNat (b / 2 ^ a % 128+128)):=by
 have:((b:Int)/ 2 ^ a)=((b / 2 ^ a:Nat):Int):=by push_cast;rfl
 rw [this,aNO];unfold bv;congr 1;simp [zEc];omega
def aOx (a:Nat):Value.int .u8 (bits .and .u8 ((a:Int)% 256) 127)=bv (UInt8.ofNat (a % 128)):=by
 rw [aOS];unfold bv;congr 1;simp [zEc];omega
def aNx {x i} (J) {e c} (C:Rd c c.heap.size 1 x i (e.map uv)) (W:∀b∈e,b < 18446744073709551616) (a8:i<=100000):
 Calls prog 63 #[.slice x i J] c λK H=>∃l a,K=.returned l/\H.ownsRow c.heap.size 5 1 l a ((dZ e).map bv)/\Below c.heap.size c H:=by
 obtain ⟨G,z,D,E,F⟩:=info_parts mB;have A:=C.1;go_enter func63,ntmps63;go_wp2;go_loopw [3,9] (λl g wr=>∃a q:Nat,a<=i/\g=.int .i64 a/\wr.ownsRow c.heap.size 5 1 l q ((dZ (e.take a)).map bv)/\Below c.heap.size c wr) (λ_ g _=>i -(intOf g).toNat)
 case atStart=>exact ⟨0,0,zAp _,rfl,ki _ _ _ _,kg _ _⟩
 case round=>
  obtain ⟨a,q,a7,rfl,v,r⟩:=hrel;by_cases X:a < i
  .have a1:∃b,e[a]?=some b:=(by have:=A;simp at this;exact ⟨e[a]' oM,zAa oM⟩);obtain ⟨b,u⟩:=a1;obtain ⟨a4,aa,ab,rfl,a6,w,Q⟩:=(C.below r).get X;rw [zAf,u] at w;simp at w;subst w;unfold uv at Q;have B:b < 18446744073709551616:=W b (zAd u);go_wp2
   go_loop [6] (λk=>∃d:Nat,d<=9/\k=.int .i64 (7*(d:Int))/\(d=0∨1<=b / 2 ^(7*d))) (λk=>100 -(intOf k).toNat)
   case atStart=>exact ⟨0,by omega,rfl,.inl rfl⟩
   case round=>
    obtain ⟨d,S,rfl,R⟩:=hrel;go_wp2
    .have O:(128:Int)<=b/ 2 ^(7*d):=(by assumption);have P:128<=b / 2 ^(7*d):=(by exact_mod_cast O);have U:=aIA B S P;refine ⟨⟨d+1,U,by go_num,.inr (by rw [aOu];omega)⟩,by simp [intOf];omega⟩
    .have Z:(b:Int)/ 2 ^(7*d) < 128:=(by assumption);have a0:b / 2 ^(7*d) < 128:=(by exact_mod_cast Z);go_loopw [3,6] (λl k I=>∃f j:Nat,f<=d/\k=.int .i64 (7*(f:Int))/\I.ownsRow c.heap.size 5 1 l j ((dZ (e.take a)++mK 10 (b / 2 ^(7*(f+1)))).map bv)/\Below c.heap.size c I) (λ_ k _=>(intOf k).toNat)
     case atStart=>exact ⟨d,q,zAs _,rfl,by rw [aOu,zGq a0];simpa [rE] using v,r⟩
     case round=>
      obtain ⟨f,j,T,rfl,m,s⟩:=hrel;have o:=s.size;have a9:j<=1100010:=(by have M:=m.1;have N:=aAD (e.take a);have a5:=aEJ 10 (b / 2 ^(7*(f+1)));simp at M N;omega);by_cases L:f=0
      .subst L;go_wp2_with (at_builtin;refine bP _ rfl (.tmp 33) (.tmp 37) _ rfl c.heap.size 5 G (.int .u8 0) 1 1 underlying22 z D E F rfl dC u3 j _ rfl m rfl rfl (by simp [Value.oneCell']) zx oM o ?_;intro a2 a3 n p Y y);have t:=aX s m p o;clear p y;go_roundw
       case rel=>refine ⟨a+1,j+1,by omega,by go_num,?_,t⟩;rw [aEY u];rw [aOx] at n;simpa [bW] using n
       case measure=>exact zr
      .go_wp2_with (at_builtin;refine bP _ rfl (.tmp 24) (.tmp 31) _ rfl c.heap.size 5 G (.int .u8 0) 1 1 underlying22 z D E F rfl dC u3 j _ rfl m rfl rfl (by simp [Value.oneCell']) zx oM o ?_;intro a2 a3 n p Y y);have t:=aX s m p o;refine ⟨⟨f - 1,j+1,by omega,cS oM,?_,t⟩,by simp [intOf];omega⟩;rw [aPf] at n;obtain ⟨g,rfl⟩:∃g,f=g+1:=⟨f - 1,by omega⟩;rw [zBb,aCh (b / 2 ^(7*(g+1))),<-aOu];simpa using n;exact aM1 T R;exact zAl (aOd g B) dC
  .have V:a=i:=oM;subst V;go_wp2;go_ret;refine ⟨u3,q,rfl,?_,r⟩;have:e.take a=e:=zAg (by have:=A;simp at this;omega);rw [this] at v;exact v
def aNy {i f} (k) {j a b} (r:Rd b j 1 i f (a.map uv)) (hB:j<=b.heap.size) (q:∀t∈a,t < 18446744073709551616) (e:f<=100000):
 Calls prog 63 #[.slice i f k] b λl g=>∃c d,l=.returned (.slice c (dZ a).length d)/\Made g b.heap.size 5 1 c (dZ a).length d ((dZ a).map bv)/\Below b.heap.size b g:=by
 refine (aNx k (r.mono hB) q e).mono λl g ⟨u,s,o,m,n⟩=>?_;have p:(dZ a).length=s:=by simpa using m.1
 subst p;obtain ⟨c,d,rfl,e⟩:=aR m;exact ⟨c,d,o,e,n⟩
def aBd {c b} (f) {e l a bs k} (m:dZ l=bs) (n:bs.length=k) (q:Rd a e 1 c b (l.map uv)) (hB:e<=a.heap.size) (o:∀r∈l,r < 18446744073709551616) (p:b<=100000):
 Calls prog 63 #[.slice c b f] a λj i=>∃d g,j=.returned (.slice d k g)/\Made i a.heap.size 5 1 d k g (bs.map bv)/\Below a.heap.size a i:=by
 subst m;subst n;exact aNy f q hB o p
def aMC (a):(sizeOf 5).run prog a=.ok 1 a:=by kernel_rfl
def vC (b:Nat) {a:Nat} (f:b<=144115188075855871) (e:a < 256):bits .or .u64 ((b:Int)*128) (IntKind.u64.wrap (bits .and .u8 (a:Int) 127))=((b*128+a % 128:Nat):Int):=by
 have c:bits .and .u8 (a:Int) 127=((a % 128:Nat):Int):=by have:=u8_and_nat a 127 e oM;rw [nat_mask7] at this;exact this
 have d:IntKind.u64.wrap (a % 128:Nat)=((a % 128:Nat):Int):=zv
 rw [c,d,show ((b:Int)*128)=((b*128:Nat):Int) by push_cast;rfl,u64_or_nat _ _ oM oM,nat_join 7 (b*128) (a % 128) oM oM]
def rC {b c d} {a:Nat×Int×Int} (e:a=(b,c,d)):Ending.returned (.tuple #[.int .u64 b,(c:Int),(d:Int)])=Ending.returned (.tuple #[uv a.1,iv a.2.1,iv a.2.2]):=by subst e;rfl
def aEC {c:Nat} {f b d e:Int} {a:Nat×Int×Int} (j:f=(c:Int)) (i:d=b) (g:a=(c,b,e)):Ending.returned (.tuple #[.int .u64 f,(d:Int),(e:Int)])=Ending.returned (.tuple #[uv a.1,iv a.2.1,iv a.2.2]):=by subst g;subst j;subst i;rfl
def aNF {r g p d} (j) {K B} (y:Rd B K 1 r g (d.map bv)) (V:g<=p) (R:p<=maxLen):
 Calls prog 183 #[.slice r g p,(j:Int)] B λO X=>O=.returned (.tuple #[uv (fF d j).1,iv (fF d j).2.1,iv (fF d j).2.2])/\B=X:=by
 unfold maxLen at R;have I:d.length=g:=by simpa using y.1
 obtain ⟨o,N⟩:=hqq2 I y;clear I y;by_cases x:j < 0
 .have m:fF d j=(0,j,2):=(by rw [fF,zBx (.inl x)]);have i:=lhd m;clear m;go_enter func183,ntmps183;go_wp2;go_ret3;exact ⟨rC i,rfl⟩
 by_cases F:(g:Int) < j
 .have m:fF d j=(0,j,2):=(by rw [fF,zBx (.inr (by rw [o.out];exact F))]);have i:=lhd m;clear m;go_enter func183,ntmps183;go_wp2;go_ret3;exact ⟨rC i,rfl⟩
 obtain ⟨a,rfl⟩:=zDB (Int.not_lt.1 x);have H:a<=g:=oM;have m:fF d (a:Int)=match fG (d.drop a) true 0 a with | some (A,W)=>(A,(W:Int),0)| none=>(0,(a:Int),4):=by rw [fF,zBw (by rw [o.out];omega)];rfl
 have i:=lhd m;have w:=N.cut (k:=a) (cap:=p) H V;have hcut:=iC (P:=prog) 22 5 1 underlying22 aMC r g p a H;generalize dH r p a 1=A' at w hcut;have L:=lhd w;have a0:decide ((a:Int) < 0)=false:=zs
 have a1:decide (g < a)=false:=zt
 clear m x w F;go_enter func183,ntmps183;go_wp2
 go_loop [7,23] (λA z=>∃c f:Nat,c<=g - a/\z=.int .i64 c/\A=.int .u64 f/\fG (d.drop (a+c)) (c==0) f (a+c)=fG (d.drop a) true 0 a) (λ_ z=>g -(intOf z).toNat)
 case atStart=>exact ⟨0,0,zAp _,rfl,rfl,rfl⟩
 case round=>
  obtain ⟨c,f,a2,rfl,rfl,E⟩:=hrel;have l:=lhd E;clear E;by_cases U:c < g - a
  .obtain ⟨C,a3,a4,rfl,Z,J,Q⟩:=L.get U;have q:∃e,d[a+c]?=some e:=⟨d[a+c]'(zj o.out),zAa (zj o.out)⟩;obtain ⟨e,q⟩:=q;simp only [zBl,zBt,zAf,q,zEq,zEB] at J;subst J;unfold bv at Q;have D:d.drop (a+c)=e::d.drop (a+c+1):=(by have T:a+c < d.length:=(zj o.out);rw [zAx T];have:d[a+c]=e:=(zAc.1 q).2;rw [this]);have t:e.toNat < 256:=e.toNat_lt;rw [D,oJ] at l;clear q D;go_wp2
   .have Y:(e.toNat:Int)=128:=(by assumption);have n:c=0:=(by assumption);go_ret3;refine ⟨rC ?_,rfl⟩;rw [i.out,<-l.out,zBx (by simp;left;omega)]
   .have n:c=0:=(by assumption);have s:((e.toNat:Int)==128)=true∨(144115188075855871:Int) < f:=(by assumption);go_ret3;refine ⟨rC ?_,rfl⟩;rw [i.out,<-l.out,zBx (by simp at s⊢;omega)]
   .have n:c=0:=(by assumption);have s:¬(e.toNat:Int)=128:=(by assumption);have u:((e.toNat:Int)==128)=false/\(f:Int)<=144115188075855871:=(by assumption);have v:(e.toNat:Int) < 128:=(by assumption);subst n;go_ret3;refine ⟨aEC (vC f oM t) ?_ (b:=((a+0+1:Nat):Int)) ?_,rfl⟩;push_cast;rfl
    .rw [i.out,<-l.out,zBw zt,zBx oM]
   have n:c=0:=(by assumption);have s:¬(e.toNat:Int)=128:=(by assumption);have u:((e.toNat:Int)==128)=false/\(f:Int)<=144115188075855871:=(by assumption);have v:(128:Int)<=e.toNat:=(by assumption);subst n;refine ⟨⟨0+1,f*128+e.toNat % 128,by omega,rfl,iT (vC f oM t),?_⟩,by simp [intOf];omega⟩;rw [<-l.out,zBw zt,zBw oM];rfl
   .have n:¬c=0:=(by assumption);have s:(144115188075855871:Int) < f:=(by assumption);go_ret3;refine ⟨rC ?_,rfl⟩;rw [i.out,<-l.out,zBx zt]
   .have n:¬c=0:=(by assumption);have u:(f:Int)<=144115188075855871:=(by assumption);have v:(e.toNat:Int) < 128:=(by assumption);go_ret3;refine ⟨aEC (vC f oM t) ?_ (b:=((a+c+1:Nat):Int)) ?_,rfl⟩;push_cast;rfl
    .rw [i.out,<-l.out,zBw zt,zBx oM]
   .have n:¬c=0:=(by assumption);have u:(f:Int)<=144115188075855871:=(by assumption);have v:(128:Int)<=e.toNat:=(by assumption);refine ⟨⟨c+1,f*128+e.toNat % 128,by omega,by go_num,iT (vC f oM t),?_⟩,by simp [intOf];omega⟩;rw [<-l.out,zBw zt,zBw oM];rfl
  .have G:c=g - a:=oM;have M:=lhd G;clear G;go_wp2;go_ret3;refine ⟨rC ?_,rfl⟩;have S:d.drop (a+c)= []:=zFh (by rw [o.out];have:=M.out;omega);rw [i.out,<-l.out,S,fG]
def fZ {e c b i a m d j k g} (n:fF i a=(j,k,g)) (r:Rd d m 1 e c (i.map bv)) (q:c<=b) (o:b<=maxLen):
 Calls prog 183 #[.slice e c b,(a:Int)] d λf l=>f=.returned (.tuple #[.int .u64 j,(k:Int),(g:Int)])/\d=l:=
 (aNF a r q o).mono λf l ⟨p,s⟩=>⟨by rw [p,n];rfl,s⟩
def aI4 {c b a:Nat} (g:c < 256 ^ a) (m:b < 256) (l:a < 4):bits .or .u32 (c:Int) ((b:Int)*2 ^(8*a)% 4294967296)=((c+b*256 ^ a:Nat):Int):=by
 have d:(256:Nat)^ a=2 ^(8*a):=by rw [Nat.pow_mul]
 have e:b*256 ^ a < 4294967296:=by have k:b*256 ^ a<=255*256 ^ a:=zEk _ oM;have i:256 ^ a<=256 ^ 3:=zBp oM oM;omega
 have j:c < 4294967296:=by have i:256 ^ a<=256 ^ 3:=zBp oM oM;omega
 have f:((b:Int)*2 ^(8*a)% 4294967296)=((b*256 ^ a:Nat):Int):=by
  rw [d] at e⊢;have:(b:Int)*2 ^(8*a)=(b*2 ^(8*a):Nat):=by push_cast;rfl
  rw [this];omega
 rw [f,u32_or_nat _ _ j e,Nat.or_comm,nat_join (8*a) (b*256 ^ a) c (by rw [d];exact Nat.mul_mod_left _ _) (by rw [<-d];exact g),zCt]
def aJP (c:Nat) (b):
 Calls prog 65 #[.int .u32 c] b λn m=>∃d,n=.returned d/\m.ownsRow b.heap.size 5 1 d 4 ((nD c).map bv)/\Below b.heap.size b m:=by
 obtain ⟨w,r,t,u,v⟩:=info_parts mB;go_enter func65,ntmps65;go_wp2;go_loopw [0,3,4] (λx d g wr=>∃a:Nat,a<=4/\g=.int .i64 a/\x=.int .u32 (c / 256 ^ a:Nat)/\wr.ownsRow b.heap.size 5 1 d a ((aBC a c).map bv)/\Below b.heap.size b wr) (λ_ _ g _=>4 -(intOf g).toNat)
 case atStart=>exact ⟨0,zAp _,rfl,by simp,ki _ _ _ _,kg _ _⟩
 case round=>
  obtain ⟨a,z,rfl,rfl,f,e⟩:=hrel;have i:=e.size;by_cases A:a < 4
  .generalize j:c / 256 ^ a=l;go_wp2_with (at_builtin;refine bP _ rfl (.tmp 6) (.tmp 9) _ rfl b.heap.size 5 w (.int .u8 0) 1 1 underlying22 r t u v rfl dC u3 a _ rfl f rfl rfl (by simp [Value.oneCell']) zx oM i ?_;intro C D k q B y);have p:=aX e f q i;refine ⟨⟨a+1,by omega,by go_num,iT ?_,?_,p⟩,by simp [intOf];omega⟩;rw [zEM,<-zFg,j];push_cast;rfl;have s:Value.int .u8 ((l:Int)% 256)=bv (UInt8.ofNat (l % 256)):=(by unfold bv;congr 1;simp [zEc]);rw [s] at k;rw [aBC,j];simpa using k
  .have o:a=4:=oM;subst o;go_wp2;go_ret;exact ⟨u3,rfl,f,e⟩
def aCI (d:Nat) (a):
 Calls prog 65 #[.int .u32 d] a λf e=>∃b c,f=.returned (.slice b 4 c)/\Made e a.heap.size 5 1 b 4 c ((nD d).map bv)/\Below a.heap.size a e:=by
 refine (aJP d a).mono λf e ⟨l,i,k,g⟩=>?_;obtain ⟨b,c,rfl,j⟩:=aR k;exact ⟨b,c,i,j,g⟩
def aCW {b:Nat} {d c:Int} {a:Nat×Int} (f:d=(b:Int)) (e:a=(b,c)):Ending.returned (.tuple #[.int .u32 d,(c:Int)])=Ending.returned (.tuple #[.int .u32 a.1,iv a.2]):=by subst e;subst f;rfl
def aOW {q f} (A) {b} (e) {w p} (n:Rd p w 1 q f (b.map bv)) (E:f<=maxLen):
 Calls prog 121 #[.slice q f A,(e:Int)] p λB J=>B=.returned (.tuple #[.int .u32 ((ofB b e).1:Int),iv (ofB b e).2])/\p=J:=by
 unfold maxLen at E;have s:b.length=f:=by simpa using n.1
 obtain ⟨i,y⟩:=hqq2 s n;clear s n;by_cases m:e < 0
 .have d:ofB b e=(0,2):=(by rw [ofB,zBx (.inl m)]);have g:=lhd d;clear d;go_enter func121,ntmps121;go_wp2;go_ret2;exact ⟨aCW rfl g,rfl⟩
 by_cases r:(f:Int) < e
 .have d:ofB b e=(0,2):=(by rw [ofB,zBx (.inr (by rw [i.out];exact r))]);have g:=lhd d;clear d;go_enter func121,ntmps121;go_wp2;go_ret2;exact ⟨aCW rfl g,rfl⟩
 by_cases G:(f:Int) - e < 4
 .have d:ofB b e=(0,4):=(by rw [ofB,zBw (by rw [i.out];omega),zBx (by rw [i.out];omega)]);have g:=lhd d;clear d;go_enter func121,ntmps121;go_wp2;go_ret2;exact ⟨aCW rfl g,rfl⟩
 obtain ⟨c,rfl⟩:=zDB (Int.not_lt.1 m);have d:ofB b (c:Int)=(ofN b c 4,0):=by rw [ofB,zBw (by rw [i.out];omega),zBw (by rw [i.out];omega)];rfl
 have g:=lhd d;have L:c+4<=f:=oM;have N:decide ((c:Int) < 0)=false:=zs
 have O:decide (f < c)=false:=zt
 have P:decide ((f:Int) -c < 4)=false:=zt
 clear d m r G;go_enter func121,ntmps121;go_wp2
 go_loop [6,23] (λI o=>∃a:Nat,a<=4/\o=.int .i64 a/\I=.int .u32 (ofN b c a:Int)) (λ_ o=>4 -(intOf o).toNat)
 case atStart=>exact ⟨0,zAp _,rfl,rfl⟩
 case round=>
  obtain ⟨a,Q,rfl,rfl⟩:=hrel;by_cases F:a < 4
  .obtain ⟨K,R,S,rfl,M,v,D⟩:=y.get (k:=c+a) oM;have j:∃l,b[c+a]?=some l:=⟨b[c+a]'(zj i.out),zAa (zj i.out)⟩;obtain ⟨l,j⟩:=j;simp only [zAf,j,zEq,zEB] at v;subst v;unfold bv at D;have u:ofN b c (a+1)=ofN b c a+l.toNat*256 ^ a:=(by rw [ofN,j];rfl);have t:=aN9 b c a;obtain ⟨z,x⟩:=hqq2 u t;generalize ofN b c a=acc at*
   have H:l.toNat < 256:=l.toNat_lt;clear j u t;go_wp2;refine ⟨⟨a+1,by omega,by go_num,iT ?_⟩,by simp [intOf];omega⟩;rw [z.out];exact aI4 x H F
  .have C:a=4:=oM;subst C;go_wp2;go_ret2;exact ⟨aCW rfl g,rfl⟩
def aPi {A m} (a) {l at_ B w n k} (d:ofB l at_=(n,k)) (g:Rd w B 1 A m (l.map bv)) (e:m<=maxLen):
 Calls prog 121 #[.slice A m a,(at_:Int)] w λb c=>b=.returned (.tuple #[.int .u32 n,(k:Int)])/\w=c:=
 (aOW a at_ g e).mono λb c ⟨f,i⟩=>⟨by rw [f,d];rfl,i⟩
def jO (a:Int×Nat):List Value:= [iv a.1,iv (a.2:Int)]
def bO (a:List (Int×Nat)):List Value:=a.flatMap jO
def kO (a:List (Int×Nat)):(bO a).length=a.length*2:=by
 induction a with
 | nil=>rfl
 | cons b a d=>
  have c:bO (b::a)=jO b++bO a:=(by simp [bO]);rw [c,zAi,d,zCg];simp [jO];omega
def eJ (a b:List (Int×Nat)):bO (a++b)=bO a++bO b:=by simp [bO,zDI]
def eM (b:List (Int×Nat)) (a d) (g:Int×Nat) (c:b[a]?=some g) (k:d < 2):(bO b)[a*2+d]?=(jO g)[d]?:=by
 induction b generalizing a with
 | nil=>simp at c
 | cons e b j=>
  have f:bO (e::b)=jO e++bO b:=(by simp [bO]);have i:(jO e).length=2:=rfl;rcases a with _ | a
  .simp at c;subst c;rw [f,zFH,zBi,zAn oM]
  simp only [zCf] at c;rw [f,zAo oM,i,show (a+1)*2+d - 2=a*2+d by omega];exact j a c
def aKx:(prog.info? 165).map (λa=>(a.zero,a.size,a.bytes))=some (some (.agg #[o0,o0]),2,16):=by kernel_rfl
def aOV {H j} (W) {I f g} (D:Rd g I 1 H j (f.map iv)) (hB:I<=g.heap.size) (au:j<=1099511627776):
 Calls prog 127 #[.slice H j W] g λY T=>∃v,Y=.returned v/\T.ownsRow g.heap.size 165 2 v (bI f).length (bO (bI f))/\Below g.heap.size g T:=by
 obtain ⟨S,J,P,Q,R⟩:=info_parts aKx;have A:f.length=j:=by simpa using D.1
 have V:=(D.mono hB);clear D;go_enter func127,ntmps127;go_wp2;go_loopw [3,9] (λv G wr=>∃c:Nat,c<=j/\G=.int .i64 c/\wr.ownsRow g.heap.size 165 2 v (bI (f.take c)).length (bO (bI (f.take c)))/\Below g.heap.size g wr) (λ_ G _=>j -(intOf G).toNat)
 case atStart=>exact ⟨0,zAp _,rfl,ki _ _ _ _,kg _ _⟩
 case round=>
  obtain ⟨c,ar,rfl,e,n⟩:=hrel;have t:=n.size;by_cases aa:c < j
  .obtain ⟨o,E⟩:∃o,f[c]?=some o:=⟨f[c]'(zj A),zAa (zj A)⟩;obtain ⟨ai,ay,az,rfl,an,F,a5⟩:=(V.below n).get aa;rw [zAf,E] at F;simp at F;subst F;unfold iv at a5;have B:=xP E;have L:=jG (f.take c);rw [zAj] at L;have z:∀b∈bI (f.take c),b.2<=j:=λb ae=>by have:=lF ae;rw [zAj] at this;omega
   generalize bI (f.take c)=r at*
   clear E;rcases zDL r with rfl |⟨k,⟨b,d⟩,rfl⟩
   .obtain ⟨U,X,rfl,ab⟩:=aR e;have a9:([]:List (Int×Nat)).length=0:=rfl;rw [a9] at*
    clear ab z;go_wp2_with (at_builtin;refine bP _ rfl (.tmp 36) (.tmp 39) _ rfl g.heap.size 165 S _ 2 16 underlying163 J P Q R rfl dC (.slice U 0 X) 0 _ rfl e rfl rfl (by simp [Value.oneCell']) zx oM t ?_;intro ag ah C q ac x);have y:=aX n e q t;clear q x;go_roundw
    case rel=>refine ⟨c+1,by omega,by go_num,?_,y⟩;rw [B,xQ];exact C
    case measure=>exact zr
   .rw [zDW] at*
    obtain ⟨a,m⟩:=eqx k.length;have K:(k++ [(b,d)]).length=a+1:=(by simp [m]);rw [K] at e L;obtain ⟨i,l,s,rfl,a6,a7,aw,ao,_⟩:∃i l s,u3=.slice (some ⟨i,0,none⟩) (a+1) l/\g.heap.size<=i/\wr.heap[i]?=some (.cells s 165 (0,0))/\a+1<=l/\l<=maxLen/\True:=(by rcases e.2 with ⟨_,am⟩|⟨i,l,s,a0,a1,a2,a3,a4,_⟩;omega;exact ⟨i,l,s,a0,a1,a2,a3,a4,trivial⟩);have N:(bO (k++ [(b,d)]))[a*2]?=some (iv b):=(by have:=eM (k++ [(b,d)]) a 0 (b,d) (by rw [zAo oM,m];simp) oM;simpa [jO] using this);have O:(bO (k++ [(b,d)]))[a*2+1]?=some (iv d):=(by have:=eM (k++ [(b,d)]) a 1 (b,d) (by rw [zAo oM,m];simp) oM;simpa [jO] using this);have ak:wr.cell? ⟨i,a*2,none⟩=some (.int .i64 b):=(e.cellAt (a*2) oM).trans N;have al:wr.cell? ⟨i,a*2+1,none⟩=some (.int .i64 d):=(e.cellAt (a*2+1) oM).trans O;have aj:=e.frozenAt (a*2+1);have av:(d:Int)<=1099511627776:=(by have:=z (b,d) zs;simp only at this;omega);have ax:((a+1:Nat):Int) - 1=a:=oM;clear N O K a7 z;by_cases u:b=o
    .have af:(b==o)=true:=(by rw [zCr];exact u);go_wp2;obtain ⟨ad,aq⟩:=e.stored (a*2+1) (.int .i64 ((d:Int)+1));refine ⟨⟨c+1,by omega,by go_num,?_,n.setCell (p:=⟨i,a*2+1,none⟩) a6 _⟩,by simp [intOf];omega⟩;rw [B,<-u,gL];have w:(k++ [(b,d+1)]).length=a+1:=(by simp [m]);have Z:(bO (k++ [(b,d)])).set (a*2+1) (.int .i64 ((d:Int)+1))=bO (k++ [(b,d+1)]):=(by rw [eJ,eJ,zEs _ _ (by rw [kO,m];omega),kO,m];congr 1;rw [show a*2+1 - a*2=1 by omega];rfl);rw [w,<-Z];exact ad
    .have af:(b==o)=false:=(by rw [zCb];exact u);go_wp2_with (at_builtin;refine bP _ rfl (.tmp 36) (.tmp 39) _ rfl g.heap.size 165 S _ 2 16 underlying163 J P Q R rfl dC (.slice (some ⟨i,0,none⟩) (a+1) l) (a+1) _ rfl e rfl rfl (by simp [Value.oneCell']) zx oM t ?_;intro ag ah C q ac x);have y:=aX n e q t;clear q x;go_roundw
     case rel=>refine ⟨c+1,by omega,by go_num,?_,y⟩;rw [B,fT _ _ u,eJ];have w:(k++ [(b,d)]++ [(o,1)]).length=a+1+1:=(by simp [m]);rw [w];exact C
     case measure=>exact zr
  .have a8:c=j:=oM;have M:f.take c=f:=zAg (zj A);have ap:j<=c:=oM;rw [M] at e;clear a8 M;go_wp2;go_ret;exact ⟨u3,rfl,e,n⟩
def aMe {j e} (l) {k n a} {g:List (Int×Nat)} (f) (o:bI n=g) (r:g.length=f) (t:Rd a k 1 j e (n.map iv)) (hB:k<=a.heap.size) (d:e<=1099511627776):
 Calls prog 127 #[.slice j e l] a λm i=>∃b c,m=.returned (.slice b f c)/\Made i a.heap.size 165 2 b f c (bO g)/\Below a.heap.size a i:=by
 subst o;subst r;refine (aOV l t hB d).mono λm i ⟨u,q,s,p⟩=>?_;obtain ⟨b,c,rfl,d⟩:=aR s;exact ⟨b,c,q,d,p⟩
def aCT:(prog.info? 3).map (λa=>(a.zero,a.size,a.bytes))=some (some (.int .i64 0),1,8):=by kernel_rfl
def aIx {b} {a:Int×Nat} (c:a∈bI b):a.1∈b:=by
 have e:=(wI b).1 a c;have d:a.1∈eV (bI b):=zGu.2 ⟨a,c,zGg.2 ⟨by omega,rfl⟩⟩;rwa [kA] at d
def aEh {b} (c:∀a∈b,a < 257):∀a∈bI (jC b),fJ a.1:=by
 intro a d;obtain ⟨f,e,g⟩:=zAy.1 (aIx d);have:=c f e;unfold fJ;omega
def qY (a):(jC a).length=a.length:=by simp [jC]
def aAz {a} (b:∀c∈a,c < 257):lY (jC a)=some (gS a):=by
 unfold lY;rw [zBx (aEh b)];rfl
def oK (a):(gS a).length<=11+22*a.length:=by
 unfold gS;have d:=qC (bI (jC a));have c:=jG (jC a);have e:=bX (bI (jC a)).length;rw [qY] at c;have b:eO (bI (jC a))=bW (bI (jC a)).length++(bI (jC a)).flatMap cB:=by simp [eO]
 rw [b,zAi];omega
def uC (c:List Nat) (b a:Nat):List UInt8:=(List.range a).flatMap λa=>bW (c.idxOf (a*b))
def qZ (c b a):uC c b (a+1)=uC c b a++bW (c.idxOf (a*b)):=by
 unfold uC;rw [zDx,zDI];simp
def pM (c b a):(uC c b a).length<=11*a:=by
 induction a with
 | zero=>simp [uC]
 | succ a d=>
  rw [qZ,zAi];have:=bX (c.idxOf (a*b));omega
def zB (c a b):yO c a b=uC c a (b / a+1):=rfl
def aMI (c b a):a<=(uC c b a).length:=by
 induction a with
 | zero=>simp
 | succ a d=>
  rw [qZ,zAi];have:=aLJ (c.idxOf (a*b));omega
def aOj {c a b} (g:1<=a) (f:c<=b / a+1) (d:¬c*a<=b):c=b / a+1:=by
 have e:b / a < c:=(zEP oM).2 oM;omega
def aK8 {c a b} (e:1<=a) (d:c*a<=b):c+1<=b / a+1:=by
 have:=(Nat.le_div_iff_mul_le oM).2 d;omega
def aIr {a} (b) (d:fJ a):Calls prog 111 #[(a:Int)] b λc e=>c=.returned (.bool true)/\b=e:=by
 obtain ⟨f,g⟩:=d;go_enter func111,ntmps111;go_wp2;go_ret;exact ⟨bH (by simp <;> omega),rfl⟩
def aKg {a} (b) (d:¬fJ a):Calls prog 111 #[(a:Int)] b λc g=>c=.returned (.bool false)/\b=g:=by
 have e:a < 0∨(0<=a/\257<=a):=by unfold fJ at d;omega
 rcases e with f |⟨f,i⟩
 .go_enter func111,ntmps111;go_wp2;go_ret;exact ⟨bH (by simp <;> omega),rfl⟩
 .go_enter func111,ntmps111;go_wp2;go_ret;exact ⟨bH (by simp <;> omega),rfl⟩
def aNz (f g:World) (e:Option (List UInt8)) (d:Ending):Prop:=
 (∃a b c,e=some a/\d=.returned (.tuple #[.slice b a.length c,o0])/\Made g f.heap.size 5 1 b a.length c (a.map bv))∨
 (e=none/\d=.returned (.tuple #[(),(1:Int)]))
def aHq (M y ad) {B} (i) {w} (a0:Rd w B 1 M y (i.map iv)) (hB:B<=w.heap.size) (aW:y<=1000000):
 Calls prog 60 #[.slice M y ad] w λm a5=>aNz w a5 (lY i) m/\Below w.heap.size w a5:=by
 obtain ⟨aJ,aq,aG,aH,aI⟩:=info_parts mB;have aw:i.length=y:=by simpa using a0.1
 obtain ⟨b,v⟩:=eqx (bI i);obtain ⟨c,n⟩:=eqx b.length;have aY:c<=1000000:=by have:=jG i;rw [v] at this;omega
 have ao:∀d∈b,d.2<=1000000:=λd e=>by have:=lF (l:=i) (x:=d) (by rw [v];exact e);omega
 have Y:lY i=if ∀d∈b,fJ d.1 then some (eO b) else none:=by unfold lY;rw [v]
 have aO:=kg w.heap.size w;clear aw;go_enter func60,ntmps60;go_wp2_with fail;refine (aMe _ c v n a0 hB oM).mono ?_;rintro m w1 ⟨z,A,rfl,U,E⟩;have aC:=E.size;have aa:=U.own;clear U;obtain ⟨k0,R⟩:=eqx ((bW c).length);have aU:k0<=11:=by rw [<-R];exact bX c
 go_wp2_with fail;refine (aBd _ (tH c) R (Rd.made _ _ 1 1 _ rfl) nL zt oM).mono ?_;rintro m K ⟨a8,af,rfl,V,s⟩;have P:=(E.alloc aC _).trans (s.mono zt);have b1:=P.size;have b0:w1.heap.size < K.heap.size:=by have:=s.size;simp at this;omega
 have az:K.ownsRow w.heap.size 5 1 (.slice a8 k0 af) k0 ((bW c).map bv):=cG V.own zt;have g:K.ownsRow w.heap.size 165 2 (.slice z c A) c (bO b):=aP (aa.alloc _) s;clear V s E;go_wp2_with fail;go_loopw [5,17] (λaL I wr=>∃a k:Nat,a<=c/\I=.int .i64 a/\wr.ownsRow w.heap.size 5 1 aL k ((bW c++(b.take a).flatMap cB).map bv)/\wr.ownsRow w.heap.size 165 2 (.slice z c A) c (bO b)/\Below w.heap.size w wr/\∀d∈b.take a,fJ d.1) (λ_ I _=>c -(intOf I).toNat)
 case atStart=>exact ⟨0,k0,zAp _,rfl,by simpa using az,g,P,by simp⟩
 case round=>
  obtain ⟨a,k,aT,rfl,p,g,r,G⟩:=hrel;have a2:=r.size;have aZ:k<=22000011:=by have D:=p.1;have O:=qC (b.take a);have aj:=bX c;rw [zAj] at O;simp only [zBc,zAi] at D;omega
  by_cases T:a < c
  .obtain ⟨d,e⟩:∃d,b[a]?=some d:=⟨b[a]'(zj n),zAa (zj n)⟩;obtain ⟨f,ak,aS⟩:∃f,z=some ⟨f,0,none⟩/\f < wr.heap.size:=(by obtain ⟨f,aN,aD,_,T⟩:=g.form oM;injection aD with D O aj;exact ⟨f,D,T⟩);subst ak;have ah:wr.cell? ⟨f,a*2,none⟩=some (.int .i64 d.1):=(g.cellAt (a*2) oM).trans ((eM b a 0 d e oM).trans rfl);have ai:wr.cell? ⟨f,a*2+1,none⟩=some (.int .i64 d.2):=(g.cellAt (a*2+1) oM).trans ((eM b a 1 d e oM).trans rfl);have ay:=sF e;have aE:=ao d (zAd e);have ar:∀j∈b.take (a+1),j∈b.take a∨j=d:=(by intro j a4;have au:a < b.length:=(zAc.1 e).1;rw [zDo au,(zAc.1 e).2] at a4;simpa using a4);have ax:=zAd e;obtain ⟨aK,j⟩:=d;simp only at ah ai aE;clear e;by_cases o:fJ aK
   .obtain ⟨q,rfl⟩:=zDB o.1;have b2:(q:Int) < 257:=o.2;obtain ⟨J,S⟩:=eqx ((cB ((q:Int),j)).length);have aV:J<=22:=(by rw [<-S];exact xR _);have ap:dZ [q,j]=cB ((q:Int),j):=(by simp [dZ,cB]);go_wp2_with (go_at_call 111;refine (aIr _ o).mono ?_;rintro m aM ⟨rfl,rfl⟩);refine (aBd _ ap S (Rd.bt _ _ 1 2 _ _ rfl zs) nL zt oM).mono ?_;rintro m L ⟨a9,ag,rfl,X,t⟩;have Q:=((r.alloc a2 _).alloc zt _).trans (t.mono zt);have a1:=Q.size;have u:L.ownsRow w.heap.size 5 1 u5 k ((bW c++(b.take a).flatMap cB).map bv):=aP ((p.alloc _).alloc _) t;have H:L.ownsRow w.heap.size 165 2 (.slice (some ⟨f,0,none⟩) c A) c (bO b):=aP ((g.alloc _).alloc _) t;have ac:=X.rd;have ab:=(jI (cB ((q:Int),j)));clear X t p g;go_wp2_with (at_builtin;refine bE _ rfl (.tmp 25) (.tmp 33) _ rfl w.heap.size 5 aJ (.int .u8 0) 1 1 underlying22 aq aG aH aI rfl dC u5 k _ rfl u L.heap.size a9 J ag _ rfl ac ab zx oM a1 ?_;intro b3 b4 aA F an);have al:=aX Q u F a1;have aB:=H.kept F (aGE H u dC);clear F an H u;go_roundw
    case rel=>refine ⟨a+1,k+J,by omega,by go_num,?_,aB,al,?_⟩;rw [ay,<-zCo,zAz];exact aA;intro a6 aF;rcases ar a6 aF with C | C;exact G a6 C;rw [C];exact o
    case measure=>exact zr
   .have N:=o;clear o;go_wp2_with (go_at_call 111;refine (aKg _ N).mono ?_;rintro m aM ⟨rfl,rfl⟩);go_ret2;refine ⟨.inr ⟨?_,rfl⟩,r.alloc a2 _⟩;rw [Y,zBw];intro am;exact N (am _ ax)
  .have av:a=c:=oM;have aQ:c<=a:=oM;have a3:b.take a=b:=zAg (zj n);rw [a3] at p G;clear av a3 g;obtain ⟨a7,ae,rfl,W⟩:=aR p;go_wp2;go_ret2;have Z:(eO b).length=k:=(by have:=W.len;rw [zBc] at this;rw [<-this,eO,n]);refine ⟨.inl ⟨eO b,a7,ae,?_,?_,?_⟩,r⟩
   .rw [Y,zBx G]
   rw [Z];rfl;rw [Z,eO,n];exact W
def aD2 (e f:World) (a:List Int×Int) (d:Ending):Prop:=
 ∃b c,d=.returned (.tuple #[.slice b a.1.length c,(a.2:Int)])/\Made f e.heap.size 3 1 b a.1.length c (a.1.map iv)
def iN {d e} {b:List Int×Int} {a} (c:([],a)=b):aD2 d e b (.returned (.tuple #[(),(a:Int)])):=by
 subst c;exact ⟨none,0,rfl,⟨ki _ _ _ _,Rd.nil _ _ _ _,zAs _,zAp _⟩⟩
def yI {X r Q m aA i} {C:TypeInfo} (al:prog.info? 3=some C) (ar:C.zero=some (.int .i64 0)) (au:C.size=1) (av:C.bytes=8) (z:Hid (m.length=r)) (Z:Hid (Rd i i.heap.size 1 X r (m.map bv))) (ad:Below i.heap.size i i) (g:r<=Q) (f:Q<=maxLen) {s:List Int×Int} {P E} (af:E<=r) (a9:Hid (fF m 0=(P,(E:Int),0))) (ab:Hid (P < 18446744073709551616)) {d} (aa:Hid (rgo m d P E 257 []=s)) (aJ:d<=1099511627776) (a1:aA=(d:Int)∨(aA < 0/\d<=0)):
 Calls prog 124 #[.slice X r Q,(aA:Int)] i λa a7=>aD2 i a7 s a/\Below i.heap.size i a7:=by
 go_enter func124,ntmps124;go_wp2_with (go_at_call 183;refine (fZ a9 Z g f).mono ?_;rintro a l ⟨rfl,rfl⟩);go_loopw [6,7,9,10] (λW ax V ay wr=>∃(p n q:Nat) (j:List Int),W=.int .u64 p/\ax=.int .i64 n/\ay=.int .u64 q/\wr.ownsRow i.heap.size 3 1 V j.length (j.map iv)/\j.length<=d/\n<=r/\p < 18446744073709551616/\rgo m d p n q j=s/\Below i.heap.size i wr) (λW _ _ _ _=>(intOf W).toNat)
 case atStart=>exact ⟨P,E,257, [],rfl,rfl,rfl,ki _ _ _ _,zAp _,af,ab,aa,ad⟩
 case round=>
  obtain ⟨p,n,q,j,rfl,rfl,rfl,B,ag,ae,an,x,o⟩:=hrel;have aL:=o.size;have k:=Z.below o;rcases p with _ | p
  .have aF:((0:Nat):Int)=0:=rfl;by_cases J:n=r
   .have e:(j,0)=s:=(by rw [<-x,rgo,zBx (by rw [z.out];exact J)]);have ht:((n:Int)==r)=true:=(by rw [zCr];omega);obtain ⟨Y,a0,rfl,T⟩:=aR B;clear J B;go_wp2;go_ret2;refine ⟨?_,o⟩;rw [<-e];exact ⟨Y,a0,rfl,T⟩
   .have e:([],4)=s:=(by rw [<-x,rgo,zBw (by rw [z.out];exact J)]);have ht:((n:Int)==r)=false:=(by rw [zCb];omega);clear J;go_wp2;go_ret2;exact ⟨iN e,o⟩
  .have A:n<=m.length:=(by rw [z.out];exact ae);rcases h1:fG (m.drop n) true 0 n with _ |⟨b,D⟩
   .have e:([],4)=s:=(by rw [<-x,aEB _ _ _ _ (aEt h1)]);have u:=(tG A h1);clear A h1;go_wp2_with (go_at_call 183;refine (fZ u k g f).mono ?_;rintro a l ⟨rfl,rfl⟩);go_ret2;exact ⟨iN e,o⟩
   .have L:=aAy _ _ _ _ _ _ h1;have w:=tF b D A h1;have aq:D<=r:=(by rw [zAw,z.out] at L;omega);have O:D<=m.length:=(by rw [z.out];exact aq);have u:=w;have aB:=L.2.2;rcases h2:fG (m.drop D) true 0 D with _ |⟨c,a⟩
    .have e:([],4)=s:=(by rw [<-x,aEB _ _ _ _ (aEs h1 h2)]);have v:=(tG O h2);clear A h1 h2 w L O;go_wp2_with fail;refine (fZ u k g f).mono ?_;rintro a l ⟨rfl,rfl⟩;go_wp2_with fail;refine (fZ v k g f).mono ?_;rintro a l ⟨rfl,rfl⟩;go_wp2;go_ret2;exact ⟨iN e,o⟩
    .have S:=aAy _ _ _ _ _ _ h2;have G:=tF c a O h2;have aj:a<=r:=(by rw [zAw,z.out] at S;omega);have v:=G;have a4:rgo m d (p+1) n q j=if 257<=b∨b=q∨c=0 then ([],4) else if d - j.length < c then ([],3) else rgo m d p a b (j++List.replicate c (b:Int)):=aEA _ _ _ _ (aAa h1 h2);have az:=S.2.2;clear A h1 h2 w L O G S;by_cases H:257<=b∨b=q∨c=0
     .have e:([],4)=s:=(by rw [<-x,a4,zBx H]);have ai:257<=b∨(b < 257/\b=q)∨(b < 257/\b≠q/\c=0):=oM;clear H;rcases ai with F |⟨F,R⟩|⟨F,R,ac⟩
      .go_wp2_with fail;refine (fZ u k g f).mono ?_;rintro a l ⟨rfl,rfl⟩;go_wp2_with fail;refine (fZ v k g f).mono ?_;rintro a l ⟨rfl,rfl⟩;go_wp2;go_ret2;exact ⟨iN e,o⟩
      .subst R;go_wp2_with fail;refine (fZ u k g f).mono ?_;rintro a l ⟨rfl,rfl⟩;go_wp2_with fail;refine (fZ v k g f).mono ?_;rintro a l ⟨rfl,rfl⟩;go_wp2;go_ret2;exact ⟨iN e,o⟩
      .subst ac;have ht:((b:Int)==q)=false:=(by rw [zCb];omega);clear R;go_wp2_with fail;refine (fZ u k g f).mono ?_;rintro a l ⟨rfl,rfl⟩;go_wp2_with fail;refine (fZ v k g f).mono ?_;rintro a l ⟨rfl,rfl⟩;go_wp2;go_ret2;exact ⟨iN e,o⟩
     .have aC:b < 257:=oM;have aI:0 < c:=oM;have aM:((c:Int)==0)=false:=(by rw [zCb];omega);have aN:=zn ((257:Int)<=b);have ht:((b:Int)==q)=false:=(by rw [zCb];omega);obtain ⟨y,N⟩:=eqx j.length;have a5:rgo m d (p+1) n q j=if d - y < c then ([],3) else rgo m d p a b (j++List.replicate c (b:Int)):=(by rw [a4,zBw H,N]);rw [N] at B ag;obtain ⟨Y,a0,rfl,T⟩:=aR B;have ao:=an;have am:∃aw:Int,aw=d -(y:Int):=⟨_,rfl⟩;clear H T am;by_cases K:d - y < c
      .have e:([],3)=s:=(by rw [<-x,a5,zBx K]);have ak:(d:Int) -y < c:=oM;clear K ao;rcases a1 with I |⟨I,aD⟩
       .subst I;go_wp2_with fail;refine (fZ u k g f).mono ?_;rintro a l ⟨rfl,rfl⟩;go_wp2_with fail;refine (fZ v k g f).mono ?_;rintro a l ⟨rfl,rfl⟩;go_wp2;go_ret2;exact ⟨iN e,o⟩
       .go_wp2_with fail;refine (fZ u k g f).mono ?_;rintro a l ⟨rfl,rfl⟩;go_wp2_with fail;refine (fZ v k g f).mono ?_;rintro a l ⟨rfl,rfl⟩;go_wp2;go_ret2;exact ⟨iN e,o⟩
      .have e:rgo m d p a b (j++List.replicate c (b:Int))=s:=(by rw [<-x,a5,zBw K]);have ak:(c:Int)<=d -y:=oM;have I:aA=d:=(by rcases a1 with F |⟨_,F⟩<;> omega);subst I;clear K;go_wp2_with fail;refine (fZ u k g f).mono ?_;rintro a l ⟨rfl,rfl⟩;go_wp2_with fail;refine (fZ v k g f).mono ?_;rintro a l ⟨rfl,rfl⟩;go_wp2;go_loopw [9,73] (λV U a8=>∃t:Nat,t<=c/\U=.int .u64 t/\a8.ownsRow i.heap.size 3 1 V (y+t) ((j++List.replicate t (b:Int)).map iv)/\Below i.heap.size i a8) (λ_ U _=>c -(intOf U).toNat)
       case atStart=>exact ⟨0,zAp _,rfl,by simpa using B,o⟩
       case round=>
        obtain ⟨t,aG,rfl,M,w⟩:=hrel;have a6:=w.size;by_cases aH:t < c
        .go_wp2_with (at_builtin;refine bP _ rfl (.tmp 75) (.tmp 78) _ rfl i.heap.size 3 C (.int .i64 0) 1 8 underlying27 al ar au av rfl dC u9 (y+t) _ rfl M rfl rfl (by simp [Value.oneCell']) zx oM a6 ?_;intro aO aP ap a2 aK ah);have G:=aX w M a2 a6;clear a2 ah;go_roundw
         case rel=>refine ⟨t+1,by omega,by go_num,?_,G⟩;rw [List.replicate_succ',<-zCo,zAz];exact ap
         case measure=>exact zr
        .have a3:t=c:=oM;have aE:c<=t:=oM;rw [a3] at M;clear a3;go_wp2;refine ⟨⟨p,a,b,j++List.replicate c (b:Int),iT oM,rfl,rfl,?_,?_,aj,by omega,e,w⟩,by simp [intOf]⟩;rw [zAi,zCn,N];exact M;rw [zAi,zCn,N];omega
def aHr {s e l t a aA b} (j:Rd b t 1 s e (a.map bv)) (hB:t<=b.heap.size) (q:e<=l) (o:l<=maxLen) (I:aA<=1099511627776) (J:-9223372036854775808<=aA):
 Calls prog 124 #[.slice s e l,(aA:Int)] b λx G=>aD2 b G (oI a aA) x/\Below b.heap.size b G:=by
 obtain ⟨M,z,D,E,F⟩:=info_parts aCT;have p:a.length=e:=by simpa using j.1
 have u:=p;have k:=(j.mono hB);have m:=kg b.heap.size b;obtain ⟨w,d⟩:=eqx (oI a aA);rw [d];rcases hfirst:fG a true 0 0 with _ |⟨r,g⟩
 .have i:fF a 0=(0,0,4):=tG (zAp _) (by simpa using hfirst);have c:([],4)=w:=(by rw [<-d,oI,hfirst]);clear j p d hfirst;go_enter func124,ntmps124;go_wp2_with (go_at_call 183;refine (fZ i k q o).mono ?_;rintro x N ⟨rfl,rfl⟩)
  go_loop [6] (λL=>L=.int .u64 0) (λ_=>0)
  case atStart=>rfl
  case round=>subst hrel;go_wp2;go_ret2;exact ⟨iN c,m⟩
 have A:=aAy _ _ _ _ _ _ hfirst;have i:fF a 0=(r,(g:Int),0):=tF r g (zAp _) (by simpa using hfirst);have c:rgo a aA.toNat r g 257 []=w:=(by rw [<-d,oI,hfirst]);have y:g<=e:=oM;have v:=A.2.2;obtain ⟨f,C⟩:∃f:Nat,aA.toNat=f:=⟨_,rfl⟩;rw [C] at c;have B:f<=1099511627776:=oM;have n:aA=f∨(aA < 0/\f<=0):=oM;clear j p d hfirst A C I J;rcases n with n |⟨K,H⟩;subst n;exact yI z D E F u k m q o y i v c B (.inl rfl);exact yI z D E F u k m q o y i v c B (.inr ⟨K,H⟩)
def aJG {A m c B b aA w l} (e) {k} (n:oI b aA=(l,k)) (t:l.length=e) (u:Rd w B 1 A m (b.map bv)) (hB:B<=w.heap.size) (q:m<=c) (p:c<=maxLen) (r:aA<=1099511627776) (s:-9223372036854775808<=aA):
 Calls prog 124 #[.slice A m c,(aA:Int)] w λg f=>∃a d,g=.returned (.tuple #[.slice a e d,(k:Int)])/\Made f w.heap.size 3 1 a e d (l.map iv)/\Below w.heap.size w f:=by
 subst t;refine (aHr u hB q p r s).mono λg f ⟨⟨a,d,i,j⟩,o⟩=>?_;rw [n] at i j;exact ⟨a,d,i,j,o⟩
def fY (b a:List UInt8) (d:Nat):List Nat:=(List.range d).filter λc=>a.isPrefixOf (b.drop c)
def dY (b a:List UInt8):List Nat:=fY b a (b.length+1 - a.length)
def nv (a:Nat):Value:=iv (a:Int)
def aAA {c b a} (d:b.isPrefixOf (c.drop a)=true):fY c b (a+1)=fY c b a++ [a]:=by
 simp [fY,zDx,zEe,d]
def wQ (b a c) (d:a.isPrefixOf (b.drop c)=false):fY b a (c+1)=fY b a c:=by
 simp [fY,zDx,zEe,d]
def wR (c b a):(fY c b a).length<=a:=by
 have:=zCw (λd=>b.isPrefixOf (c.drop d)) (List.range a);rw [zCi] at this;exact this
structure Told where
 code:Int
 num:Int
 data:List UInt8
 places:List Nat
def iD (a:Told) (b:Option Addr) (d:Nat) (c:Option Addr) (e:Nat):Array Value:=#[.int .i64 a.code,.int .i64 a.num,.slice b a.data.length d,.slice c a.places.length e]
def bK (d e c:Int) (a:Option Addr) (nd b:Nat):Value:=.agg #[(d:Int),(e:Int),(c:Int),.slice a nd b]
def aV (c a b):Made c a b 1 none 0 0 []:=⟨ki _ _ _ _,Rd.nil _ _ _ _,zAs _,zAp _⟩
def dK (c:Nat) (a b:Int):Bool:=decide (0<=a/\0<=b/\a<=(c:Int)/\b<=(c:Int) - a)
def doM (a:List UInt8) (aA d b e:Int) (c:List UInt8):List UInt8×Told:=
 if d=1 then
  if dK a.length b 0=false then (a,⟨2,0, [], []⟩) else if aA -(a.length:Int) < c.length then (a,⟨3,0, [], []⟩) else (a.take b.toNat++(c++a.drop b.toNat),⟨0,0, [], []⟩)
 else if d=2 then
  if dK a.length b e=false then (a,⟨2,0, [], []⟩) else (a.take b.toNat++a.drop (b.toNat+e.toNat),⟨0,0, [], []⟩)
 else if d=5 then
  if dK a.length b e=false then (a,⟨2,0, [], []⟩) else (a,⟨0,0,(a.drop b.toNat).take e.toNat, []⟩)
 else if d=3 then
  if dK a.length b (c.length:Int)=false then (a,⟨2,0, [], []⟩) else (a.take b.toNat++(c++a.drop (b.toNat+c.length)),⟨0,0, [], []⟩)
 else if d=4 then (a,⟨0,(a.length:Int), [], []⟩)
 else if d=6 then (a,⟨0,((dY a c).length:Int), [], []⟩)
 else if d=7 then (a,⟨0,((dY a c).length:Int), [],dY a c⟩)
 else if d=8 then (a,⟨0,0, [], []⟩)
 else (a,⟨1,0, [], []⟩)
def dT {f b a} (e:dK f b a=true):∃c d:Nat,b=(c:Int)/\a=(d:Int)/\c+d<=f:=by
 unfold dK at e;have:=of_decide_eq_true e;exact ⟨b.toNat,a.toNat,by omega,by omega,by omega⟩
def yQ (b:List UInt8) (a:Nat) (c:List UInt8):List UInt8:=b.take a++(c++b.drop a)
def aLh (a b):yQ a b []=a:=by
 unfold yQ;rw [zDH,zAu]
def uP {t k} (a) (b:k<=t.length):(yQ t k a).length=t.length+a.length:=by
 unfold yQ;rw [zAi,zAi,zAj,zAw];omega
def aLi {t a} (b c) (e:a<=t.length):aT (yQ t a b) (a+b.length) c=yQ t a (b++ [c]):=by
 have d:(t.take a).length=a:=by rw [zAj];omega
 unfold aT yQ;rw [zEI,zFE,d,zDP,zDi nL,zFf,zDC nL,List.drop_length,zAg oM,zEE oM];simp
def aLM {t:List UInt8} {a b:Nat} (d:a+b < t.length):aK (t.take a++t.drop (a+b)) a=t.take a++t.drop (a+(b+1)):=by
 have c:(t.take a).length=a:=by rw [zAj];omega
 unfold aK;rw [zDi oM,zAg oM,zFE,c,zEE oM,show a+1 - a=1 by omega,zDH,zFB];rfl
def cut_len (a:List UInt8) {p j:Nat} (b:p+j<=a.length):(a.take p++a.drop (p+j)).length=a.length - j:=by
 rw [zAi,zAj,zAw];omega
def fR {a:World} {f e:Nat} {b:Option Addr} {d:List UInt8} (g:Rd a f 1 b e (d.map bv)):∀c,(convert 22 9 (.slice b e c)).run prog a=.ok (.string ⟨d.toArray⟩) a:=
 λc=>nX (P:=prog) 22 9 5 underlying22 underlying5 underlying9 g
namespace Tr
def Le:Tr->Prop
 | lf a=>a.length<=128
 | nd b c=>b.Le/\c.Le
def Full.le:∀ {b:Tr},b.Full->b.Le
 | lf c,a=>a.2
 | nd d e,a=>⟨Full.le a.1,Full.le a.2⟩
def Near.le {b:Tr} (a:Near b):b.Le:=by
 rcases a with a |⟨c,rfl,a⟩;exact a.le;simp only [Le];omega
def Ok.le {a:Tr} (b:a.Ok):a.Le:=by
 cases a with
 | lf c=>exact b.2
 | nd d e=>exact Full.le b.2
def Ok.de {a:Tr} (b:a.Ok):a.Avl:=by
 cases a with
 | lf c=>trivial
 | nd d e=>exact b.1
def ht_lv:∀a:Tr,a.ht+1<=a.lv
 | lf d=>zAs _
 | nd b c=>by have e:=ht_lv b;have f:=ht_lv c;simp only [ht,lv];omega
end Tr
def lH (x y:Int) (gb:Nat):List Value:= [.int .i64 (-1),.int .i64 (-1),.int .i64 0,.int .i64 x,.int .i64 y,.int .i64 0,.int .i64 0,.pointer (some gb)]
def ndL (b f a n e c d:Int):List Value:= [.int .i64 b,.int .i64 f,.int .i64 a,.int .i64 n,.int .i64 e,.int .i64 c,.int .i64 d,.pointer none]
def At8 (xs:List Value) (k:Nat) (b:List Value):Prop:=b.length=8/\∀a,a < 8->xs[k*8+a]?=b[a]?
def At8.get {xs k b} (c:At8 xs k b) (a) (d:a < 8):xs[k*8+a]?=b[a]?:=c.2 a d
def At8.lt {xs k n a} (b:At8 xs k a) (f:xs.length=n*8):k < n:=by
 have c:=b.2 7 oM;have d:7 < a.length:=by rw [b.1];omega
 rw [zAa d] at c;obtain ⟨e,_⟩:=zAc.1 c;omega
def At8.set {xs k a} (c:At8 xs k a) {j} (l:j < 8) (v):At8 (xs.set (k*8+j) v) k (a.set j v):=by
 refine ⟨by rw [zAt];exact c.1,λd i=>?_⟩;have b:=c.2 d i;by_cases f:d=j
 .subst f;have e:d < a.length:=(by rw [c.1];omega);rw [zAa e] at b;obtain ⟨g,_⟩:=zAc.1 b;rw [zDq g,zDq e]
 rw [zDr oM,zDr oM];exact b
def At8.ac {xs k a b} (c:At8 xs a b) (g:a≠k) {j} (f:j < 8) (v):At8 (xs.set (k*8+j) v) a b:=by
 refine ⟨c.1,λe d=>?_⟩;rw [zDr oM];exact c.2 e d
def At8.dp {xs f b} (a:At8 xs f b) (j):At8 (xs++j) f b:=by
 refine ⟨a.1,λc e=>?_⟩;have d:=a.2 c e;have g:c < b.length:=by rw [a.1];omega
 rw [zAa g] at d;obtain ⟨i,_⟩:=zAc.1 d;rw [zAn i];exact a.2 c e
def At8.new {xs n a} (c:xs.length=n*8) (b:a.length=8):At8 (xs++a) n a:=by
 refine ⟨b,λe d=>?_⟩;rw [zAo oM,c,zDP]
def At8.ex {xs k n} (D:xs.length=n*8) (C:k < n):∃c d e f g i j l,At8 xs k [c,d,e,f,g,i,j,l]:=by
 have a:∀b,b < 8->∃B,xs[k*8+b]?=some B:=λb z=>⟨_,zAa oM⟩;obtain ⟨c,m⟩:=a 0 oM;obtain ⟨d,o⟩:=a 1 oM;obtain ⟨e,p⟩:=a 2 oM;obtain ⟨f,q⟩:=a 3 oM;obtain ⟨g,r⟩:=a 4 oM;obtain ⟨i,s⟩:=a 5 oM;obtain ⟨j,t⟩:=a 6 oM;obtain ⟨l,u⟩:=a 7 oM;refine ⟨c,d,e,f,g,i,j,l,rfl,λb z=>?_⟩;rcases b with _ | _ | _ | _ | _ | _ | _ | _ | b;exact m;exact o;exact p;exact q;exact r;exact s;exact t;exact u;omega
def But8 (k:Nat) (xs c:List Value):Prop:=∀a b,a≠k->At8 xs a b->At8 c a b
def But8.refl (k xs):But8 k xs xs:=λ_ _ _ a=>a
def But8.trans {k xs d e} (i:But8 k xs d) (g:But8 k d e):But8 k xs e:=λc a b f=>g c a b (i c a b f)
def But8.set (k xs) {j} (b:j < 8) (v):But8 k xs (xs.set (k*8+j) v):=λe d c a=>a.ac c b v
inductive LT where
 | lf (k g:Nat) (b:List Bool)
 | nd (k:Nat) (l r:LT)
namespace LT
def num:LT->Nat
 | lf k _ _=>k
 | nd k _ _=>k
def er:LT->Tr
 | lf _ _ a=>.lf a
 | nd _ b c=>.nd b.er c.er
def nums:LT->List Nat
 | lf k _ _=> [k]
 | nd k a b=>k::(a.nums++b.nums)
def blks:LT->List Nat
 | lf _ a _=> [a]
 | nd _ b c=>b.blks++c.blks
abbrev bits (a:LT):List Bool:=a.er.bits
abbrev len (a:LT):Nat:=a.er.bits.length
abbrev on (a:LT):Nat:=a.er.bits.count true
abbrev ht (a:LT):Nat:=a.er.ht
def cells:LT->List Value
 | lf _ g c=>lH (c.length:Int) ((c.count true:Nat):Int) g
 | nd _ a b=>ndL (a.num:Int) (b.num:Int) ((max a.ht b.ht+1:Nat):Int) ((a.len+b.len:Nat):Int) ((a.on+b.on:Nat):Int) (a.len:Int) (a.on:Int)
def In (w:World) (xs:List Value):LT->Prop
 | lf k b a=>At8 xs k (cells (lf k b a))/\Bk w b 240 (dL a)
 | nd k c d=>At8 xs k (cells (nd k c d))/\In w xs c/\In w xs d
def In.at {w xs} {a:LT} (b:a.In w xs):At8 xs a.num a.cells:=by
 cases a with
 | lf k d c=>exact b.1
 | nd k e f=>exact b.1
def num_mem (a:LT):a.num∈a.nums:=by
 cases a <;> simp [num,nums]
def In.keep {w w':World} {xs l:List Value}:∀ {g:LT},g.In w xs->(∀b,b∈g.nums->∀d,At8 xs b d->At8 l b d)->(∀a,a∈g.blks->∀d,Bk w a 240 d->Bk w' a 240 d)->g.In w' l
 | lf k a m,c,e,f=>⟨e k (by simp [nums]) _ c.1,f a (by simp [blks]) _ c.2⟩
 | nd k o p,c,e,f=>⟨e k (by simp [nums]) _ c.1,In.keep c.2.1 (λb j=>e b (by simp [nums,j])) (λa i=>f a (by simp [blks,i])),In.keep c.2.2 (λb j=>e b (by simp [nums,j])) (λa i=>f a (by simp [blks,i]))⟩
def In.a {w:World} {xs:List Value}:∀ {d:LT},d.In w xs->∀c,c∈d.blks->∃e,Bk w c 240 e
 | lf k c f,b,x,a=>by simp only [blks,zDa] at a;subst a;exact ⟨_,b.2⟩
 | nd k g i,b,x,a=>by simp only [blks,zCp] at a;rcases a with a | a;exact In.a b.2.1 x a;exact In.a b.2.2 x a
def len_nd (k) (a b:LT):(nd k a b).len=a.len+b.len:=by simp [len,er,Tr.bits]
def on_nd (k) (a b:LT):(nd k a b).on=a.on+b.on:=by simp [on,er,Tr.bits]
def on_le (a:LT):a.on<=a.len:=zBv
end LT
def xA (a b:Int) (e n f:Nat) (c d:Int) (g:Option Addr):List Value:= [.int .i64 a,.int .i64 b,.int .i64 e,.int .i64 n,.int .i64 f,.int .i64 c,.int .i64 d,.pointer g]
def LT.R (b:LT):∃d e f g l,b.cells=xA d e b.ht b.len b.on f g l:=by
 cases b with
 | lf k o m=>exact ⟨_,_,_,_,_,rfl⟩
 | nd k a c=>
  have i:=LT.len_nd k a c;have j:=LT.on_nd k a c;exact ⟨a.num,c.num,a.len,a.on,none,by rw [i,j];rfl⟩
def aJB (b:World->World->Prop) (a:Value->World->Prop):Prop:=∀v w w',a v w->b w w'->a v w'
def jN (a:World->World->Prop) (b):aJB a (is b):=λ_ _ _ c _=>c
def lE (a:World->World->Prop):aJB a cO:=λ_ _ _ _ _=>trivial
def dI {e:World->World->Prop} {c} (f:∀d∈c,aJB e d):∀b v w w',Vs c b v w->e w w'->Vs c b v w':=by
 intro b v w w' a g;unfold Vs at a⊢;rw [zAb] at a⊢;rcases hl:c[b]? with _ | d;rw [hl] at a;exact a;rw [hl] at a;exact f d (zAd hl) v w w' a g
def mO {ga A c Af cf N M w} (a:Bk w ga 173 #[.slice A N c,.slice Af M cf,(268435456:Int)]) (i:N<=1048576) (g:M<=N):
 Calls prog 143 #[ga] w λb w'=>b=.returned (.int .i64 (N - M:Nat))/\Below w.heap.size w w':=by
 have d:w.cell? ga=some (.slice A N c):=(a.cell 0).trans rfl;have e:w.cell? ⟨ga,1,none⟩=some (.slice Af M cf):=(a.cell 1).trans rfl;have f:IntKind.i64.wrap (N -M)=((N - M:Nat):Int):=zu
 clear a;go_enter func143,ntmps143;go_wp2;go_quiet (fail);go_wp2;go_ret;exact ⟨fM oM,km bR _⟩
def oP (o ga) {A c} (g i) {N} (tk w) (q:Bk w ga 173 #[.slice A N c,.slice g 0 i,(268435456:Int)]) (B:w.ownsRow o 4 1 (.slice A N c) N (tk.map Value.bool)) (hB:o<=w.heap.size) (an:N<=1000000):
 Calls prog 87 #[ga] w λL w'=>L=.returned (.tuple #[(N:Int),o0])/\Keep (λb=>b=ga∨(Value.slice A N c).ownBlock=some b) w w'/\∃s,Bk w' ga 173 #[s,.slice g 0 i,(268435456:Int)]/\w'.ownsRow o 4 1 s (N+1) ((tk++ [true]).map Value.bool)/\(s.ownBlock=(Value.slice A N c).ownBlock∨∃O,s.ownBlock=some O/\w.heap.size<=O):=by
 obtain ⟨af,a5,ac,ad,ae⟩:=info_parts nE;have ao:=q.lt;obtain ⟨f,Y,X⟩:=hqq3 q B (bC B q dC);clear q B;go_enter func87,ntmps87;go_wp2;refine wp_region_any kR ?_;refine aQ (S:=(Grow)) (V:=(Vs [is ga,is (N:Int),is ga,is ga,is (.pointer (some ⟨ga,2,none⟩)),is (.int .i64 268435456),is (.bool false),is (.bool false)])) [10,11,12,13,14,15,16,9] _ rfl kR bR (λ_ _=>Grow.trans) (dI tA0) ?_ ?_
 .refine aL ?_;refine pH 0 (.pointer (some ga)) ?_;refine sC (λ_ d a _ _ _ e _ _ _ u=>?_) ?_
  .have aj:_=_:=e 0 10 kR rfl;replace a:(Grow) w d:=gD a;go_simp;refine (mO (ga:=ga) (A:=A) (c:=c) (Af:=g) (cf:=i) (N:=N) (M:=0) (w:=d) (f.out.below a f.out.lt) oM oM).mono ?_;rintro L au ⟨rfl,a4⟩;exact u _ _ a4 rfl
  refine pH 0 (.pointer (some ga)) ?_;refine pV 2 12 ?_;refine pV 3 13 ?_;refine pL 4 14 (λd a=>have a:(Grow) w d:=gD a;(((f.out.below a f.out.lt).cell 2).trans rfl:d.cell? ⟨ga,2,none⟩=some (.int .i64 268435456))) ?_;refine sC (λ_ _ _ _ _ _ e _ _ _ u=>?_) ?_
  .have ak:_=_:=e 1 11 kR rfl;have al:_=_:=e 5 15 kR rfl;have ap:((N:Int)==268435456)=false:=(by simp;omega);go_simp;exact u _ _ bR (by first | rfl | simp [is] |(simp [is];omega))
  refine pV 6 16 ?_;exact aB
 .intro a2 m a e;replace a:(Grow) w m:=gD a;have a1:a2 (.tmp 9)=.bool false:=e 7 9 rfl;simp only [zqq];rw [a1];clear e;have l:=f.out.below a f.out.lt;have ab:=Below.size a;have T:=aP Y.out a;have a0:m.cell? ⟨ga,1,none⟩=some (.slice g 0 i):=(l.cell 1).trans rfl;have J:m.cell? ga=some (.slice A N c):=(l.cell 0).trans rfl;have a3:=l.frozen 0;have R:ga < m.heap.size:=oM;obtain ⟨t,E,I⟩:=hqq3 a l T;clear a l T;generalize m=W2 at E ab J a0 a3 t R I⊢;have ag:=(zEw W2 (Obj.cells #[true] 4) ⟨ga,0,none⟩ R).trans J;go_wp2_with (at_builtin;refine bP _ rfl (.tmp 53) (.tmp 54) _ rfl o 4 af (.bool false) 1 1 underlying119 a5 ac ad ae rfl dC (.slice A N c) N _ rfl I.out rfl rfl (by simp [Value.oneCell']) (by unfold maxLen;omega) oM oM ?_;intro ar d C z aq P;have r:=E.out.grown z X.out;obtain ⟨Z,W,U,H⟩:=hqq4 C z P r;have ai:d.cell? ga=some (.slice A N c):=(r.cell 0).trans rfl;have am:=r.frozen 0;obtain ⟨D,K,rfl,a9⟩:=aR C;clear C z P r a9);go_ret2;have aa:=ka (F:=λb=>b=ga∨(Value.slice A N c).ownBlock=some b) (ke _ d) (p:=ga) (.inl (.inl rfl)) (.slice D (N+1) K);have a7:Keep (λb=>b=ga∨(Value.slice A N c).ownBlock=some b) w W2:=kF t.out;have a8:=a7.grown W.out (λk a6=>.inl (.inr a6));refine ⟨rfl,a8.trans' aa (λb _ j=>j),_,H.out.set 0 _,?_,?_⟩;have:=aC (w':=d.setCell ga (.slice D (N+1) K)) Z.out λb ah _ Q=>Q.m (Bk.ne Q H.out dC) _;simpa using this;rcases U.out with j | j;exact .inl j;exact .inr ⟨_,j,by have:=t.out.size;omega⟩
def OwnF (F:Nat->Prop) (v:Value):Prop:=∀a,v.ownBlock=some a->F a
def Gw (F:Nat->Prop) (n:Nat) (a:Nat):Prop:=F a∨n<=a
def Gw.keep {F w w1 b} (c:Keep F w w1) (k:Keep (Gw F w.heap.size) w1 b):Keep F w b:=c.trans' k λd e a=>by
 rcases a with a | a;exact a;omega
def OwnF.mono {F G v} (b:OwnF F v) (k:∀a,F a->G a):OwnF G v:=λa c=>k a (b a c)
def OwnF.slice {F b e n c} (d:F b):OwnF F (.slice (some ⟨b,e,none⟩) n c):=λf a=>by
 injection a with a;rw [<-a];exact d
def OwnF.at {F a d n b} (c:OwnF F (.slice (some ⟨a,d,none⟩) n b)):F a:=c a rfl
def ArenaE (w:World) (F:Nat->Prop) (ga:Nat) (tk:List Bool) (fr:List Nat):Prop:=
 F ga/\∃b d a c,Bk w ga 173 #[.slice b tk.length d,.slice a fr.length c,(268435456:Int)]/\w.ownsRow 0 4 1 (.slice b tk.length d) tk.length (tk.map Value.bool)/\w.ownsRow 0 3 1 (.slice a fr.length c) fr.length (fr.map sv)/\OwnF F (.slice b tk.length d)/\OwnF F (.slice a fr.length c)
def aMP {w:World} {c n m a b:Nat} {d:TypeId} {A:Option Addr} {xs:List Value} (e:w.ownsRow c d a (.slice A n b) n xs) (r:m<=n) (u:0 < n):w.ownsRow c d a (.slice A m b) m (xs.take (m*a)):=by
 rcases e.2 with ⟨f,g⟩|⟨j,cap,i,f,g,l,t,o,p,q⟩;omega
 .injection f with h8 h9 h10;subst h8 h10;have s:m*a<=n*a:=zEk _ r;refine ⟨by rw [zAj,e.1];omega,.inr ⟨j,b,i,rfl,g,l,by omega,o,p,?_⟩⟩;rw [<-q,zEy,zCu s]
def aMQ {w:World} {d n j b:Nat} {e:TypeId} {A:Option Addr} {xs:List Value} (f:w.ownsRow d e j (.slice A n b) n xs):n<=b/\b<=maxLen:=by
 rcases f.2 with ⟨a,c⟩|⟨m,cap,l,a,c,o,g,i,p,q⟩;injection a with _ _ a;subst a;subst c;exact ⟨zAs _,zAp _⟩;injection a with _ _ a;subst a;exact ⟨g,i⟩
def ArenaE.b {w w' F ga tk fr} (e:ArenaE w F ga tk fr) (k:Vis w w'):ArenaE w' F ga tk fr:=by
 obtain ⟨f,b,d,a,c,g,i,j,l,m⟩:=e;exact ⟨f,b,d,a,c,k.d g dC dC,k.own i dC dC,k.own j dC dC,l,m⟩
def ArenaE.mono {w F G ga tk fr} (l:ArenaE w F ga tk fr) (k:∀a,a < w.heap.size->F a->G a):ArenaE w G ga tk fr:=by
 obtain ⟨m,g,j,f,i,c,d,e,o,p⟩:=l;exact ⟨k _ c.lt m,g,j,f,i,c,d,e,λa b=>k a (d.lt a b).2 (o a b),λa b=>k a (e.lt a b).2 (p a b)⟩
def ArenaE.keep {w w' F G ga tk fr} (r:ArenaE w F ga tk fr) (k:Keep G w w') (e:∀a l c,l∈ [173,4,3]->Bk w a l c->F a->¬G a):ArenaE w' F ga tk fr:=by
 obtain ⟨f,o,q,m,p,g,s,t,i,j⟩:=r;refine ⟨f,o,q,m,p,k.d g (e _ _ _ dC g f),aC s λa c d b=>k.d b (e _ _ _ dC b (i a d)),aC t λa c d b=>k.d b (e _ _ _ dC b (j a d)),i,j⟩
def yF {F ga k tk fr w} (aa:ArenaE w F ga tk (fr++ [k])) (ah:k < tk.length) (ht:tk.length<=1000000) (X:fr.length < tk.length):
 Calls prog 87 #[ga] w λj w'=>j=.returned (.tuple #[(k:Int),o0])/\ArenaE w' F ga (tk.set k true) fr/\Keep F w w':=by
 obtain ⟨T,A,B,a7,f,e,u,r,a2,a1⟩:=aa;obtain ⟨t,J⟩:=eqx tk.length;obtain ⟨a,q⟩:=eqx fr.length;have a0:(fr++ [k]).length=a+1:=by simp [q]
 rw [a0] at e r a1;rw [J] at e u a2 ht ah X;rw [q] at X;obtain ⟨gt,au,E,_,ag⟩:=kj u oM;injection E with E _ hcc;subst E hcc;obtain ⟨d,aq,H,_,Z⟩:=kj r oM;injection H with H _ hcc2;subst H hcc2;have aF:=aMQ r;have a3:=aMP (m:=a) r oM oM;have Y:((fr++ [k]).map sv).take (a*1)=fr.map sv:=by
  have:(fr.map sv).length=a:=by rw [zBc,q]
  rw [zAz,zBl,<-this,List.take_left]
 rw [Y] at a3;have P:w.cell? ⟨d,a,none⟩=some (.int .i64 k):=by refine (kh r a oM).trans ?_;rw [zAz,zAo (by simp [q]),zBc,q,zDK];rfl
 obtain ⟨D,a6⟩:∃D,tk[k]?=some D:=⟨_,zAa oM⟩;have R:w.cell? ⟨gt,k,none⟩=some (.bool D):=by refine (kh u k oM).trans ?_;rw [zAf,a6];rfl
 have a5:ga≠gt:=λj=>bC u e dC (by rw [j];rfl);have aG:ga≠d:=λj=>bC r e dC (by rw [j];rfl);have af:∃C,Bk w gt 4 C:=by
  rcases u.2 with ⟨i,_⟩|⟨aE,cap,C,i,_,ab,_⟩
  .cases i
  injection i with i _ _;injection i with i;injection i with i _;subst i;exact ⟨C,ab⟩
 obtain ⟨C,W⟩:=af;have aJ:=e.lt;clear r Y a0 a6;go_enter func87,ntmps87;go_wp2;refine wp_region_any kR<|aQ (S:=(Grow)) (V:=(Vs [is ga,is (.int .i64 (t -(a+1):Nat)),is ga,is ga,is (.pointer (some ⟨ga,2,none⟩)),is (.int .i64 268435456),is (.bool false),is (.bool false)])) [10,11,12,13,14,15,16,9] _ rfl kR bR (λ_ _=>Grow.trans) (dI tA0) ?_ ?_
 .refine aL<|pH 0 (.pointer (some ga))<|sC (λ_ z b _ _ _ s _ _ _ I=>?_) ?_
  .have ax:_=_:=s 0 10 kR rfl;replace b:(Grow) w z:=gD b;go_simp;refine (mO (ga:=ga) (A:=(some ⟨gt,0,none⟩)) (c:=B) (Af:=(some ⟨d,0,none⟩)) (cf:=f) (N:=t) (M:=(a+1)) (w:=z) (e.below b e.lt) oM oM).mono ?_;rintro j aT ⟨rfl,K⟩;exact I _ _ K rfl
  refine pH 0 (.pointer (some ga))<|pV 2 12<|pV 3 13<|pL 4 14 (λz b=>have b:(Grow) w z:=gD b;(((e.below b e.lt).cell 2).trans rfl:z.cell? ⟨ga,2,none⟩=some (.int .i64 268435456))) ?_;refine sC (λ_ _ _ _ _ _ s _ _ _ I=>?_) ?_
  .have ay:_=_:=s 1 11 kR rfl;have az:_=_:=s 5 15 kR rfl;have aM:(((t -(a+1):Nat):Int)==268435456)=false:=(by rw [zCb];omega);go_simp;exact I _ _ bR (by first | rfl | simp [is] |(simp [is];omega))
  refine pV 6 16 ?_;exact aB
 .intro a9 g b s;replace b:(Grow) w g:=gD b;have a8:a9 (.tmp 9)=.bool false:=s 7 9 rfl;simp only [zqq];rw [a8];clear s;have o:=e.below b e.lt;have L:=W.below b W.lt;have ao:g.cell? ga=some (.slice (some gt) t B):=(o.cell 0).trans rfl;have ap:g.cell? ⟨ga,1,none⟩=some (.slice (some d) (a+1) f):=(o.cell 1).trans rfl;have aA:=o.frozen 1;have aD:=L.frozen k;have ar:g.cell? ⟨d,a,none⟩=some (.int .i64 k):=(b.cell (p:=⟨d,a,none⟩) Z).trans P;have av:g.cell? ⟨gt,k,none⟩=some (.bool D):=(b.cell (p:=⟨gt,k,none⟩) ag).trans R;have aH:=o.lt;have aK:=L.lt;have aI:d < g.heap.size:=zAl Z b.size;have am:=aP u b;have aj:=aP a3 b;have aw:IntKind.i64.wrap ((a+1:Nat) - 1)=(a:Int):=zu;have aN:(a:Int) < (a+1:Nat):=oM;have aO:(k:Int) < t:=oM;have aR:(a:Int)<=f:=oM;have aS:((a+1:Nat):Int) > 0:=oM;clear P R;go_wp2_with fail;go_ret2;have ai:Keep F w g:=kF b;have ad:=o.set 1 (.slice (some d) a f);have K:=ad.m (p:=⟨gt,k,none⟩) a5 (.bool true);have an:=aC (w':=g.setCell ⟨ga,1,none⟩ (.slice (some d) a f)) am λO Q _ l=>l.m (Bk.ne l o dC) _;have a4:=(kk an k (.bool true)).1;have ak:=aC (w':=g.setCell ⟨ga,1,none⟩ (.slice (some d) a f)) aj λO Q _ l=>l.m (Bk.ne l o dC) _;have ae:=L.m (p:=⟨ga,1,none⟩) (λj=>a5 j.symm) (.slice (some d) a f);have al:=aC (w':=(g.setCell ⟨ga,1,none⟩ (.slice (some d) a f)).setCell ⟨gt,k,none⟩ (.bool true)) ak λO Q _ l=>l.m (Bk.ne l ae dC) _;have U:F gt:=OwnF.at a2;have ac:F d:=OwnF.at a1;rw [show ((tk.map Value.bool).set k (.bool true))=(tk.set k true).map Value.bool by rw [zGi]] at a4;refine ⟨rfl,⟨T,some ⟨gt,0,none⟩,B,some ⟨d,0,none⟩,f,?_,?_,?_,?_,?_⟩,?_⟩;rw [zAt,J,q];exact K;rw [zAt,J];exact a4;rw [q];exact al;rw [zAt];exact OwnF.slice U;exact OwnF.slice ac;exact ka (F:=F) (ka (F:=F) ai (p:=⟨ga,1,none⟩) (.inl T) _) (p:=⟨gt,k,none⟩) (.inl U) _
def qW {F} {ga k:Nat} {tk fr w} (j:ArenaE w F ga tk fr) (d:tk[k]?=some true):
 Calls prog 231 #[ga,(k:Int)] w λi w'=>i=.returned (.bool true)/\w=w':=by
 obtain ⟨z,A,g,q,s,a,b,p,o,m⟩:=j;obtain ⟨l,_⟩:=zAc.1 d;obtain ⟨e,f⟩:=eqx tk.length;rw [f] at a b l;obtain ⟨gt,u,c,_,C⟩:=kj b oM;injection c with c _ hcc;subst c hcc;have r:w.cell? ga=some (.slice (some gt) e g):=(a.cell 0).trans rfl;have t:w.cell? ⟨gt,k,none⟩=some (.bool true):=by refine (kh b k oM).trans ?_;rw [zAf,d];rfl
 have B:=a.lt;have E:(k:Int) < e:=oM;have D:decide ((k:Int)>=0)=true:=zs
 clear a b p o m f d;go_enter func231,ntmps231;go_wp2_with fail;go_ret;exact ⟨rfl,rfl⟩
def aFN {F} {ga gs k:Nat} {tk fr w} (j:ArenaE w F ga tk fr) (H:tk[k]?=some true) (r:Bk w gs 3 #[(k:Int)]) (ar:fr.length<=1000000):
 Calls prog 208 #[ga,.slice (some gs) 1 1] w λi w'=>i=.returned (.int .i64 0)/\ArenaE w' (Gw F w.heap.size) ga (tk.set k false) (fr++ [k])/\Keep F w w':=by
 have a9:=qW j H;obtain ⟨a6,A,z,l,o,b,g,T,R,Q⟩:=j;obtain ⟨ay,_⟩:=zAc.1 H;obtain ⟨aJ,av,aG,aH,aI⟩:=info_parts gI;obtain ⟨m,N⟩:=eqx tk.length;obtain ⟨c,P⟩:=eqx fr.length;rw [P] at b T Q ar;rw [N] at b g R ay;obtain ⟨gt,aK,M,_,aT⟩:=kj g oM;injection M with M _ hcc;subst M hcc;have al:w.cell? ⟨gt,k,none⟩=some (.bool true):=by refine (kh g k oM).trans ?_;rw [zAf,H];rfl
 have aF:ga≠gt:=λi=>bC g b dC (by rw [i];rfl);have au:∃C,Bk w gt 4 C:=by
  rcases g.2 with ⟨a,_⟩|⟨a5,cap,C,a,_,L,_⟩
  .cases a
  injection a with a _ _;injection a with a;injection a with a _;subst a;exact ⟨C,L⟩
 obtain ⟨C,E⟩:=au;have ap:=E.frozen k;have ak:w.cell? ga=some (.slice (some gt) m z):=(b.cell 0).trans rfl;have am:w.cell? gs=some (.int .i64 (k:Int)):=(r.cell 0).trans rfl;have aQ:=b.lt;have aS:=r.lt;have aU:(k:Int) < (m:Int):=oM;have aE:gs≠gt:=Bk.ne r E dC;obtain ⟨d,f⟩:=eqx (w.setCell ⟨gt,k,none⟩ (.bool false));have q:Bk d ga 173 #[.slice (some gt) m z,.slice l c o,(268435456:Int)]:=by rw [<-f];exact b.m (p:=⟨gt,k,none⟩) aF _
 have V:Bk d gs 3 #[(k:Int)]:=by rw [<-f];exact r.m (p:=⟨gt,k,none⟩) aE _
 have ac:d.ownsRow 0 4 1 (.slice (some gt) m z) m ((tk.set k false).map Value.bool):=by rw [<-f,zGi];exact (kk g k (.bool false)).1
 have U:d.ownsRow 0 3 1 (.slice l c o) c (fr.map sv):=by rw [<-f];exact aC T λu a3 _ e=>e.m (p:=⟨gt,k,none⟩) (Bk.ne e E dC) _
 have a7:F gt:=OwnF.at R;have aa:Keep F w d:=by rw [<-f];exact ka (F:=F) (ke _ _) (p:=⟨gt,k,none⟩) (.inl a7) _
 have aM:d.cell? ⟨ga,1,none⟩=some (.slice l c o):=(q.cell 1).trans rfl;have aP:=q.lt;have ab:Rd d d.heap.size 1 (some ⟨gs,0,none⟩) 1 [.int .i64 (k:Int)]:=⟨rfl,λ_=>⟨gs,0,rfl,V.lt,λI aW ad=>by
  rw [zBi,V.cell];rcases I with _ | I;exact ad
  .simp at ad⟩⟩
 obtain ⟨ag,a2,a1,Z,aj,ae,a0,K,X⟩:=hqq9 q ac U aa ab f Q P N;have ah:=lhd (bC U q dC);clear b g T R Q N P E r H q V ac U aa f ab;go_enter func208,ntmps208;go_wp2_with fail;refine wp_loop_rounds 2 ?_;rw [rounds_succ];go_wp2_with fail;refine a9.mono ?_;rintro i w1 ⟨rfl,rfl⟩;clear a9;go_wp2_with fail;rw [ae.out];clear ak am al ap;rw [rounds_succ];go_wp2_with (at_builtin;refine bE _ rfl (.tmp 48) (.tmp 49) _ rfl 0 3 aJ (.int .i64 0) 1 8 underlying27 av aG aH aI rfl dC (.slice l c o) c _ rfl a1.out _ _ _ _ _ rfl aj.out (by simp [Value.oneCell']) (by unfold maxLen;omega) oM (zAp _) ?_;intro aX W S O a8;have D:=ag.out.grown O ah.out;have aO:=D.frozen 1;have aN:=D.cell 1;obtain ⟨ai,Y,af,J⟩:=hqq4 S O a8 D;obtain ⟨s,B,rfl,az⟩:=aR S;clear S O a8 D az);go_ret;have ax:Keep F w W:=Z.out.grown Y.out (λI aw=>.inl (a0.out I aw));have aq:=J.out.set 1 (.slice s (c+1) B)
 have aB:=World.ownsRow.kept a2.out Y.out (by
  rcases hh:(Value.slice l c o).ownBlock with _ | x
  .right;simp [Value.ownBlock]
  .right;intro i;have an:gt=x:=(by simpa [Value.ownBlock] using i);subst an;rcases a1.out.2 with ⟨a,_⟩|⟨a5,cap,aL,a,_,L,_⟩
   .rw [a] at hh;simp [Value.ownBlock] at hh
   .rw [a] at hh;have ao:a5=gt:=(by simpa [Value.ownBlock] using hh);subst ao;exact bC a2.out (t:=3) L dC rfl)
 have aD:=aC (w':=W.setCell ⟨ga,1,none⟩ (.slice s (c+1) B)) aB λu a3 _ e=>e.m (Bk.ne e J.out dC) _;have aA:=aC (w':=W.setCell ⟨ga,1,none⟩ (.slice s (c+1) B)) ai.out λu a3 _ e=>e.m (Bk.ne e J.out dC) _;have aV:=Z.out.size;refine ⟨rfl,⟨.inl a6,some ⟨gt,0,none⟩,z,s,B,?_,?_,?_,?_,?_⟩,?_⟩;rw [zAt,X.out,zAi,K.out];exact aq;rw [zAt,X.out];exact aD;rw [zAi,K.out,zAz];exact aA;exact OwnF.slice (.inl a7);intro u b;rw [zAi,K.out] at b;rcases af.out with j | j;exact .inl (a0.out u (j.symm.trans b));have a4:=j.symm.trans b;injection a4 with a4;exact .inr oM;exact ka (F:=F) ax (p:=⟨ga,1,none⟩) (.inl a6) _
def fE {w e n j d f c xs} (g:w.ownsRow e c j (.slice (some d) n f) n xs):∃b,Bk w d c b:=by
 rcases g.2 with ⟨a,_⟩|⟨l,cap,b,a,_,i,_⟩
 .cases a
 injection a with a _ _;injection a with a;injection a with a _;subst a;exact ⟨b,i⟩
def nZ {w e p n d b A xs f g} (o:w.ownsRow 0 e p (.slice A n d) n xs) (a:(Value.slice A n d).ownBlock=some b) (m:Bk w b f g):f=e:=by
 rcases o.2 with ⟨c,_⟩|⟨j,cap,q,c,_,l,_⟩
 .rw [c] at a;cases a
 rw [c] at a;injection a with a;have i:j=b:=a;subst i;exact (aU m l).1
def ArenaE.own {w F ga tk fr} (q:ArenaE w F ga tk fr):∃d:Nat->Prop,(∀a,d a->F a)/\(∀a c o,d a->Bk w a c o->c=173∨c=4∨c=3)/\(∀a,d a->a < w.heap.size)/\ArenaE w d ga tk fr:=by
 obtain ⟨r,l,p,j,m,e,f,g,s,t⟩:=q;refine ⟨λa=>a=ga∨(Value.slice l tk.length p).ownBlock=some a∨(Value.slice j fr.length m).ownBlock=some a,λa b=>?_,λa c o b i=>?_,λa b=>?_,.inl rfl,l,p,j,m,e,f,g,λa b=>.inr (.inl b),λa b=>.inr (.inr b)⟩;rcases b with rfl | b | b;exact r;exact s a b;exact t a b;rcases b with rfl | b | b;exact .inl (aU i e).1;exact .inr (.inl (nZ f b i));exact .inr (.inr (nZ g b i));rcases b with rfl | b | b;exact e.lt;exact (f.lt a b).2;exact (g.lt a b).2
structure TR (w:World) (gt ga:Nat) (A:Option Addr) (cap n:Nat) (xs:List Value) (rt v:Int):Prop where
 a:Bk w gt 223 #[ga,.slice A n cap,(rt:Int),(v:Int)]
 row:w.ownsRow 0 226 8 (.slice A n cap) n xs
section
variable {w w' : World} {F G : Nat -> Prop} {gt ga cap n : Nat} {A : Option Addr} {xs : List Value} {tk : List Bool} {fr : List Nat} {rt v : Int}
def TR.b (b:TR w gt ga A cap n xs rt v) (k:Vis w w'):∃a,TR w' gt ga A cap n xs rt a:=by
 obtain ⟨a,c⟩:=k.tree b.a;exact ⟨a,c,k.own b.row dC dC⟩
def TR.same (d:TR w gt ga A cap n xs rt v) (k:∀a c b,c∈ [223,226]->Bk w a c b->Bk w' a c b):TR w' gt ga A cap n xs rt v:=
 ⟨k _ _ _ dC d.a,aC d.row λa b _ e=>k _ _ _ dC e⟩
def TR.below (b:TR w gt ga A cap n xs rt v) (k:Below w.heap.size w w'):TR w' gt ga A cap n xs rt v:=b.same λc e d _ a=>a.below k a.lt
def TR.len (a:TR w gt ga A cap n xs rt v):xs.length=n*8:=a.row.1
def TR.ex (c:TR w gt ga A cap n xs rt v) (e:0 < n):∃gl a,A=some ⟨gl,0,none⟩/\Bk w gl 226 a:=by
 obtain ⟨gl,f,b,_,_⟩:=kj c.row e;injection b with b _ h2;subst b;obtain ⟨a,d⟩:=fE c.row;exact ⟨gl,a,rfl,d⟩
def TR.ab (a:TR w gt ga A cap n xs rt v) (c):TR (w.setCell ⟨gt,3,none⟩ (.int .i64 c)) gt ga A cap n xs rt c:=
 ⟨a.a.set 3 _,aC a.row λd e _ b=>b.m (p:=⟨gt,3,none⟩) (Bk.ne b a.a dC) _⟩
def TR.ao (a:TR w gt ga A cap n xs rt v) (c):TR (w.setCell ⟨gt,2,none⟩ (.int .i64 c)) gt ga A cap n xs c v:=
 ⟨a.a.set 2 _,aC a.row λd e _ b=>b.m (p:=⟨gt,2,none⟩) (Bk.ne b a.a dC) _⟩
def TR.c0 (a:TR w gt ga A cap n xs rt v):w.cell? gt=some (.pointer (some ga)):=(a.a.cell 0).trans rfl
def TR.c1 (a:TR w gt ga A cap n xs rt v):w.cell? ⟨gt,1,none⟩=some (.slice A n cap):=(a.a.cell 1).trans rfl
def TR.c2 (a:TR w gt ga A cap n xs rt v):w.cell? ⟨gt,2,none⟩=some (.int .i64 rt):=(a.a.cell 2).trans rfl
def TR.c3 (a:TR w gt ga A cap n xs rt v):w.cell? ⟨gt,3,none⟩=some (.int .i64 v):=(a.a.cell 3).trans rfl
def TR.at {gl k c d e f g i j l} (o:TR w gt ga (some ⟨gl,0,none⟩) cap n xs rt v) (m:At8 xs k [c,d,e,f,g,i,j,l]):
 w.cell? ⟨gl,k*8,none⟩=some c/\w.cell? ⟨gl,k*8+1,none⟩=some d/\w.cell? ⟨gl,k*8+2,none⟩=some e/\w.cell? ⟨gl,k*8+3,none⟩=some f/\w.cell? ⟨gl,k*8+4,none⟩=some g/\w.cell? ⟨gl,k*8+5,none⟩=some i/\w.cell? ⟨gl,k*8+6,none⟩=some j/\w.cell? ⟨gl,k*8+7,none⟩=some l:=by
 have q:=m.lt o.len;have a:∀b,b < 8->w.cell? ⟨gl,k*8+b,none⟩= [c,d,e,f,g,i,j,l][b]?:=λb p=>(kh o.row (k*8+b) oM).trans (m.2 b p);exact ⟨a 0 oM,a 1 oM,a 2 oM,a 3 oM,a 4 oM,a 5 oM,a 6 oM,a 7 oM⟩
def LT.In.b {a:LT} (c:a.In w xs) (k:Vis w w'):a.In w' xs:=c.keep (λ_ _ _ b=>b) λf _ e d=>k.d d dC dC
def LT.In.below {b:LT} (d:b.In w xs) (k:Below w.heap.size w w'):b.In w' xs:=d.keep (λ_ _ _ c=>c) λf _ e a=>a.below k a.lt
structure TX (w:World) (F:Nat->Prop) (gt ga:Nat) (A:Option Addr) (cap n:Nat) (xs:List Value) (tk:List Bool) (fr:List Nat) (rt v:Int):Prop where
 W:F gt
 rd:TR w gt ga A cap n xs rt v
 own:OwnF F (.slice A n cap)
 V:ArenaE w F ga tk fr
 Y:tk.length=n
 au:∀k,k < n->tk[k]?=some (decide (k∉fr))
def TX.b (a:TX w F gt ga A cap n xs tk fr rt v) (k:Vis w w'):∃b,TX w' F gt ga A cap n xs tk fr rt b:=by
 obtain ⟨b,c⟩:=a.rd.b k;exact ⟨b,a.W,c,a.own,a.V.b k,a.Y,a.au⟩
def TX.mono (a:TX w F gt ga A cap n xs tk fr rt v) (k:∀b,b < w.heap.size->F b->G b):TX w G gt ga A cap n xs tk fr rt v:=
 ⟨k _ a.rd.a.lt a.W,a.rd,λb c=>k b (a.rd.row.lt b c).2 (a.own b c),a.V.mono k,a.Y,a.au⟩
def TX.keep (a:TX w F gt ga A cap n xs tk fr rt v) (k:Keep G w w') (e:∀b d c,d∈ [223,173,226,4,3]->Bk w b d c->F b->¬G b):TX w' F gt ga A cap n xs tk fr rt v:=
 ⟨a.W,⟨k.d a.rd.a (e _ _ _ dC a.rd.a a.W),aC a.rd.row λb c g f=>k.d f (e _ _ _ dC f (a.own b g))⟩,a.own,a.V.keep k λb d c ht=>e b d c (by simp at ht;rcases ht with rfl | rfl | rfl <;> decide),a.Y,a.au⟩
def TX.below (b:TX w F gt ga A cap n xs tk fr rt v) (k:Below w.heap.size w w'):TX w' F gt ga A cap n xs tk fr rt v:=b.keep (G:=λ_=>False) (kF k) λ_ _ _ _ _ _ a=>a
def TX.bq (b:TX w F gt ga A cap n xs tk fr rt v) (d i):ArenaE (w.setCell ⟨gt,d,none⟩ i) F ga tk fr:=
 b.V.keep (G:=λa=>a=gt) (ka (F:=λa=>a=gt) (ke _ _) (p:=⟨gt,d,none⟩) (.inl rfl) _) λa l j c g _ e=>by have f:a=gt:=e;subst f;rw [(aU g b.rd.a).1] at c;exact absurd c dC
def TX.ab (a:TX w F gt ga A cap n xs tk fr rt v) (b):TX (w.setCell ⟨gt,3,none⟩ (.int .i64 b)) F gt ga A cap n xs tk fr rt b:=⟨a.W,a.rd.ab b,a.own,a.bq 3 _,a.Y,a.au⟩
def TX.ao (a:TX w F gt ga A cap n xs tk fr rt v) (b):TX (w.setCell ⟨gt,2,none⟩ (.int .i64 b)) F gt ga A cap n xs tk fr b v:=⟨a.W,a.rd.ao b,a.own,a.bq 2 _,a.Y,a.au⟩
def TX.put {gl} (a:TX w F gt ga (some ⟨gl,0,none⟩) cap n xs tk fr rt v) (c d):TX (w.setCell ⟨gl,c,none⟩ d) F gt ga (some ⟨gl,0,none⟩) cap n (xs.set c d) tk fr rt v:=by
 obtain ⟨m,e⟩:=fE a.rd.row;refine ⟨a.W,⟨a.rd.a.m (p:=⟨gl,c,none⟩) (Bk.ne a.rd.a e dC) _,(kk a.rd.row c d).1⟩,a.own,a.V.keep (G:=λb=>b=gl) (ka (F:=λb=>b=gl) (ke _ _) (p:=⟨gl,c,none⟩) (.inl rfl) _) λb o l f j _ g=>?_,a.Y,a.au⟩;have i:b=gl:=g;subst i;rw [(aU j e).1] at f;exact absurd f dC
structure LK (F:Nat->Prop) (bl:List Nat) (w w':World):Prop where
 keep:Keep F w w'
 a:∀g cs,g∉bl->Bk w g 240 cs->Bk w' g 240 cs
def LK.refl (F a w):LK F a w w:=⟨ke _ _,λ_ _ _ b=>b⟩
def LK.trans {a w1} (d:LK F a w w1) (k:LK F a w1 w'):LK F a w w':=⟨d.keep.trans k.keep,λc b e f=>k.a c b e (d.a c b e f)⟩
def LK.mono {b bl'} (c:LK F b w w') (k:∀a,a < w.heap.size->a∈b->a∈bl'):LK F bl' w w':=⟨c.keep,λa e g d=>c.a a e (λf=>g (k a d.lt f)) d⟩
def LK.below {bl} (k:Below w.heap.size w w'):LK F bl w w':=⟨kF k,λc b _ a=>a.below k a.lt⟩
def LK.of {d} (k:Keep G w w') (g:∀a,a < w.heap.size->G a->F a) (i:∀a b,G a->¬Bk w a 240 b):LK F d w w':=⟨k.mono g,λf b _ c=>k.d c λe=>i f b e c⟩
def LK.set {a i d e bl} (j:Bk w a d e) (ht:d≠240) (l:F a) (m):LK F bl w (w.setCell ⟨a,i,none⟩ m):=
 LK.of (G:=λb=>b=a) (ka (F:=λb=>b=a) (ke _ _) (p:=⟨a,i,none⟩) (.inl rfl) _) (λb _ c=>by rw [c];exact l) λb o c g=>by have f:b=a:=c;subst f;exact ht (aU j g).1
def LK.one {a} (k:Keep (λc=>c=a) w w') (e:F a):LK F [a] w w':=⟨k.mono λc _ b=>by rw [b];exact e,λx g f d=>k.d d λb=>f (by simp [show x=a from b])⟩
def ButL (c:List Nat) (xs d:List Value):Prop:=∀a b,a∉c->At8 xs a b->At8 d a b
def ButL.refl (b xs):ButL b xs xs:=λ_ _ _ a=>a
def ButL.trans {a e f} (j:ButL a xs e) (i:ButL a e f):ButL a xs f:=λd b c g=>i d b c (j d b c g)
def But8.l {k l a} (e:But8 k xs a) (f:k∈l):ButL l xs a:=λi c g b=>e i c (λd=>g (d ▸ f)) b
def LT.In.but {c:LT} {f e g} (l:c.In w xs) (k:ButL f xs g) (j:LK F e w w') (m:∀b,b∈c.nums->b∉f) (o:∀a,a∈c.blks->a∉e):c.In w' g:=
 l.keep (λb r d i=>k b d (m b r) i) λa p d q=>j.a a d (o a p) q
end
def RowS (gl cl n k:Nat) (xs:List Value) (gb:Nat) (x y:Int) (w:World):Prop:=∃a,w.ownsRow 0 226 8 (.slice (some gl) n cl) n a/\At8 a k (lH x y gb)/\But8 k xs a
section
variable {gl cl n k gb : Nat} {xs : List Value} {x y : Int} {w w' : World}
def RowS.grow (b:RowS gl cl n k xs gb x y w) (a:Below w.heap.size w w'):RowS gl cl n k xs gb x y w':=by
 obtain ⟨f,c,d,e⟩:=b;exact ⟨f,aP c a,d,e⟩
def RowS.di (b:RowS gl cl n k xs gb x y w) (a):RowS gl cl n k xs gb a y (w.setCell ⟨gl,k*8+3,none⟩ (.int .i64 a)):=by
 obtain ⟨f,c,d,e⟩:=b;exact ⟨_,(kk c (k*8+3) (.int .i64 a)).1,d.set oM _,e.trans (But8.set k f oM _)⟩
def RowS.dh (b:RowS gl cl n k xs gb x y w) (a):RowS gl cl n k xs gb x a (w.setCell ⟨gl,k*8+4,none⟩ (.int .i64 a)):=by
 obtain ⟨f,c,d,e⟩:=b;exact ⟨_,(kk c (k*8+4) (.int .i64 a)).1,d.set oM _,e.trans (But8.set k f oM _)⟩
def RowS.lt (a:RowS gl cl n k xs gb x y w):gl < w.heap.size:=by
 obtain ⟨e,b,c,d⟩:=a;exact (World.ownsRow.lt b gl rfl).2
def RowS.cw {a b c} (e:RowS gl cl n k xs gb x y w) (g:Bk w a b c) (i:226≠b):a≠gl:=by
 obtain ⟨m,f,j,l⟩:=e;exact λd=>bC f g i (by rw [d];rfl)
def RowS.cell (d:RowS gl cl n k xs gb x y w) (a) (e:a < 8):w.cell? ⟨gl,k*8+a,none⟩=(lH x y gb)[a]?:=by
 obtain ⟨g,b,c,f⟩:=d;have:=c.lt b.1;exact (kh b (k*8+a) oM).trans (c.2 a e)
def RowS.c3 (a:RowS gl cl n k xs gb x y w):w.cell? ⟨gl,k*8+3,none⟩=some (.int .i64 x):=a.cell 3 oM
def RowS.c4 (a:RowS gl cl n k xs gb x y w):w.cell? ⟨gl,k*8+4,none⟩=some (.int .i64 y):=a.cell 4 oM
def RowS.c7 (a:RowS gl cl n k xs gb x y w):w.cell? ⟨gl,k*8+7,none⟩=some (.pointer (some gb)):=a.cell 7 oM
def RowS.fz (b:RowS gl cl n k xs gb x y w) (a):w.frozen? ⟨gl,a,none⟩=false:=by
 obtain ⟨f,c,d,e⟩:=b;exact zFR c a
end
def aO4 (a:World) (gl cl n k:Nat) (xs:List Value) (gb:Nat) (w1:World):Prop:=Keep (λb=>b=gl) a w1/\∃x y,RowS gl cl n k xs gb x y w1
def aO2 (gl cl n k:Nat) (xs:List Value) (gb:Nat) (d e:Int) (b:Nat) (w1 a:World):Prop:=
 (b=14->Keep (λc=>c=gl) w1 a/\∀x y,RowS gl cl n k xs gb x y w1->RowS gl cl n k xs gb d y a)/\(b=17->Keep (λc=>c=gl) w1 a/\∀x y,RowS gl cl n k xs gb x y w1->RowS gl cl n k xs gb x e a)/\(b≠14->b≠17->Grow w1 a)
def cV {gl cl n k xs gb d e b w1 c} (g:b≠14) (i:b≠17) (f:Grow w1 c):aO2 gl cl n k xs gb d e b w1 c:=⟨λa=>absurd a g,λa=>absurd a i,λ_ _=>f⟩
def aI8 {g w1 m gl cl n k xs gb c o p} (q:aO4 g gl cl n k xs gb w1) (f:aO2 gl cl n k xs gb o p c w1 m):aO4 g gl cl n k xs gb m:=by
 obtain ⟨a,x,y,b⟩:=q;by_cases i:c=14;obtain ⟨d,e⟩:=f.1 i;exact ⟨a.trans d,_,_,e x y b⟩;by_cases j:c=17;obtain ⟨d,e⟩:=f.2.1 j;exact ⟨a.trans d,_,_,e x y b⟩;have l:=f.2.2 i j;exact ⟨a.trans (kF l),x,y,b.grow l⟩
def N3 (gl cl n k:Nat) (xs:List Value) (gb:Nat) (a:Int):Value->World->Prop:=λ_ w1=>∃y,RowS gl cl n k xs gb a y w1
def N4 (gl cl n k:Nat) (xs:List Value) (gb:Nat) (a:Int):Value->World->Prop:=λ_ w1=>∃x,RowS gl cl n k xs gb x a w1
def aLC {gt ga gl cl n k gb xs rt v r w} (ht:TR w gt ga (some ⟨gl,0,none⟩) cl n xs rt v) {W X} (E:At8 xs k (lH W X gb)) (J:Bk w gb 240 (dL r)) (a1:r.length<=128):
 Calls prog 242 #[gt,(k:Int)] w λf w'=>f=.returned (.tuple #[])/\Keep (λu=>u=gl) w w'/\RowS gl cl n k xs gb (r.length:Int) ((r.count true:Nat):Int) w':=by
 obtain ⟨q,O⟩:∃q:Int,(r.length:Int)=q:=⟨_,rfl⟩;obtain ⟨o,P⟩:∃o:Int,((r.count true:Nat):Int)=o:=⟨_,rfl⟩;rw [O,P];have L:RowS gl cl n k xs gb W X w:=⟨xs,ht.row,E,But8.refl _ _⟩;have a7:=ht.c1;have a8:=(ht.at E).2.2.2.2.2.2.2;have ay:(k:Int) < n:=zj (E.lt ht.len)
 have ax:=L.lt;have Q:=L.cw J dC;clear ht E;go_enter func242,ntmps242;go_wp2;refine wp_region_any kR<|tU (C:=(aO4 w gl cl n k xs gb)) (S:=(aO2 gl cl n k xs gb q o)) (U:=(λ_ _=>True)) (V:=(Vs [is (.pointer (some ⟨gl,k*8,none⟩)),is (.pointer (some ⟨gl,k*8,none⟩)),is (.pointer (some ⟨gl,k*8,none⟩)),is (.pointer (some ⟨gl,k*8,none⟩)),is (.pointer (some ⟨gl,k*8+7,none⟩)),is gb,is (.int .i64 q),is (.pointer (some ⟨gl,k*8,none⟩)),is (.pointer (some ⟨gl,k*8,none⟩)),is (.pointer (some ⟨gl,k*8+7,none⟩)),is gb,is (.int .i64 o),is (.pointer (some ⟨gl,k*8,none⟩)),is (.pointer (some ⟨gl,k*8+3,none⟩)),N3 gl cl n k xs gb q,is (.pointer (some ⟨gl,k*8,none⟩)),is (.pointer (some ⟨gl,k*8+4,none⟩)),N4 gl cl n k xs gb o])) [18,19,20,21,22,23,24,25,26,27,28,29,30,31,32,33] _ rfl kR ⟨⟨rfl,rfl,rfl,zAs _,λ_ _ _=>rfl⟩,_,_,L⟩ (λ_=>trivial) (λM w1 a4 z k=>aI8 z k) (λ_ _ _ _ _ _ _ _ _=>trivial) ?_ ?_ ?_;intro T M v w1 a4 R aw e av k;rcases T with _ | _ | _ | _ | _ | _ | _ | _ | _ | _ | _ | _ | _ | _ | _ | _ | _ | _ | T;exact e;exact e;exact e;exact e;exact e;exact e;exact e;exact e;exact e;exact e;exact e;exact e;exact e;exact e;obtain ⟨y,e⟩:=e;by_cases D:M=17;exact ⟨_,(k.2.1 D).2 _ _ e⟩;exact ⟨_,RowS.grow e (k.2.2 (λf=>R f.symm) D)⟩;exact e;exact e;obtain ⟨x,e⟩:=e;by_cases B:M=14;exact ⟨_,(k.1 B).2 _ _ e⟩;exact ⟨_,RowS.grow e (k.2.2 B (λf=>R f.symm))⟩;exact trivial
 .refine aL<|sC3 (λs _ a _ _ _ t _ _ _ _ b=>?_) ?_
  .obtain ⟨g,i,j,d⟩:=a;have H:s (.tmp 4)=.pointer (some ⟨gl,k*8,none⟩):=t 4 kR;go_simp;exact b _ _ (cV dC dC bR) rfl
  refine sC3 (λs _ a _ _ _ t _ _ _ _ b=>?_) ?_
  .obtain ⟨g,i,j,d⟩:=a;have H:s (.tmp 4)=.pointer (some ⟨gl,k*8,none⟩):=t 4 kR;go_simp;exact b _ _ (cV dC dC bR) rfl
  refine sC3 (λs _ a _ _ _ t _ _ _ _ b=>?_) ?_
  .obtain ⟨g,i,j,d⟩:=a;have H:s (.tmp 4)=.pointer (some ⟨gl,k*8,none⟩):=t 4 kR;go_simp;exact b _ _ (cV dC dC bR) rfl
  refine sC3 (λ_ _ a _ _ _ _ c _ _ _ b=>?_) ?_
  .obtain ⟨g,i,j,d⟩:=a;have ad:_=_:=c 2 20 kR rfl;go_simp;exact b _ _ (cV dC dC bR) rfl
  refine sC3 (λ_ _ a _ _ _ _ c _ _ _ b=>?_) ?_
  .obtain ⟨g,i,j,d⟩:=a;have ae:_=_:=c 3 21 kR rfl;go_simp;exact b _ _ (cV dC dC bR) rfl
  refine sC3 (λ_ m a _ _ _ _ c _ _ _ b=>?_) ?_
  .obtain ⟨g,i,j,d⟩:=a;have af:_=_:=c 4 22 kR rfl;have Y:m.cell? ⟨gl,k*8+7,none⟩=some (.pointer (some gb)):=d.c7;go_simp;exact b _ _ (cV dC dC bR) rfl
  refine sC3 (λ_ m a _ _ _ _ c _ _ _ b=>?_) ?_
  .obtain ⟨g,i,j,d⟩:=a;have ag:_=_:=c 5 23 kR rfl;have K:=g.d J (λf=>Q f);go_simp;refine (kT (gb:=gb) (l:=r) (w:=m) K).mono ?_;rintro f a5 ⟨rfl,rfl⟩;exact b _ _ (cV dC dC bR) (cS O)
  refine sC3 (λs _ a _ _ _ t _ _ _ _ b=>?_) ?_
  .obtain ⟨g,i,j,d⟩:=a;have H:s (.tmp 4)=.pointer (some ⟨gl,k*8,none⟩):=t 4 kR;go_simp;exact b _ _ (cV dC dC bR) rfl
  refine sC3 (λ_ _ a _ _ _ _ c _ _ _ b=>?_) ?_
  .obtain ⟨g,i,j,d⟩:=a;have ai:_=_:=c 7 25 kR rfl;go_simp;exact b _ _ (cV dC dC bR) rfl
  refine sC3 (λ_ _ a _ _ _ _ c _ _ _ b=>?_) ?_
  .obtain ⟨g,i,j,d⟩:=a;have aj:_=_:=c 8 26 kR rfl;go_simp;exact b _ _ (cV dC dC bR) rfl
  refine sC3 (λ_ m a _ _ _ _ c _ _ _ b=>?_) ?_
  .obtain ⟨g,i,j,d⟩:=a;have ak:_=_:=c 9 27 kR rfl;have Y:m.cell? ⟨gl,k*8+7,none⟩=some (.pointer (some gb)):=d.c7;go_simp;exact b _ _ (cV dC dC bR) rfl
  refine sC3 (λ_ m a _ _ _ _ c _ _ _ b=>?_) ?_
  .obtain ⟨g,i,j,d⟩:=a;have al:_=_:=c 10 28 kR rfl;have K:=g.d J (λf=>Q f);go_simp;refine (aBX (gb:=gb) (l:=r) (w:=m) K a1).mono ?_;rintro f a5 ⟨rfl,rfl⟩;exact b _ _ (cV dC dC bR) (cS P)
  refine sC3 (λ_ _ a _ _ _ _ c _ _ _ b=>?_) ?_
  .obtain ⟨g,i,j,d⟩:=a;have ab:_=_:=c 0 18 kR rfl;go_simp;exact b _ _ (cV dC dC bR) rfl
  refine sC3 (λ_ _ a _ _ _ _ c _ _ _ b=>?_) ?_
  .obtain ⟨g,i,j,d⟩:=a;have an:_=_:=c 12 30 kR rfl;go_simp;exact b _ _ (cV dC dC bR) rfl
  refine sC3 (λ_ m a _ _ _ _ c _ _ _ b=>?_) ?_
  .obtain ⟨g,i,j,d⟩:=a;have ao:_=_:=c 13 31 kR rfl;have ah:_=_:=c 6 24 kR rfl;have a9:m.cell? ⟨gl,k*8+3,none⟩=some (.int .i64 i):=d.c3;have ar:=d.fz (k*8+3);go_simp;exact b (.bool true) _ ⟨λ_=>⟨ka (F:=λu=>u=gl) (ke _ _) (p:=⟨gl,k*8+3,none⟩) (.inl rfl) _,λx y z=>z.di q⟩,λf=>absurd f dC,λf=>absurd rfl f⟩ ⟨j,d.di q⟩
  refine sC3 (λ_ _ a _ _ _ _ c _ _ _ b=>?_) ?_
  .obtain ⟨g,i,j,d⟩:=a;have ac:_=_:=c 1 19 kR rfl;go_simp;exact b _ _ (cV dC dC bR) rfl
  refine sC3 (λ_ _ a _ _ _ _ c _ _ _ b=>?_) ?_
  .obtain ⟨g,i,j,d⟩:=a;have ap:_=_:=c 15 32 kR rfl;go_simp;exact b _ _ (cV dC dC bR) rfl
  refine sC3 (λ_ m a _ _ _ _ c _ _ _ b=>?_) ?_
  .obtain ⟨g,i,j,d⟩:=a;have aq:_=_:=c 16 33 kR rfl;have am:_=_:=c 11 29 kR rfl;have aa:m.cell? ⟨gl,k*8+4,none⟩=some (.int .i64 j):=d.c4;have au:=d.fz (k*8+4);go_simp;exact b (.bool true) _ ⟨λf=>absurd f dC,λ_=>⟨ka (F:=λu=>u=gl) (ke _ _) (p:=⟨gl,k*8+4,none⟩) (.inl rfl) _,λx y z=>z.dh o⟩,λ_ f=>absurd rfl f⟩ ⟨i,d.dh o⟩
  exact aB
 .intro s N a c I;obtain ⟨a0,_⟩:=a;obtain ⟨_,a6,B⟩:∃v,N3 gl cl n k xs gb q v N:=I 14 dC;obtain ⟨_,az,D⟩:∃v,N4 gl cl n k xs gb o v N:=I 17 dC;have Z:RowS gl cl n k xs gb q o N:=(by have a2:=B.c4.symm.trans D.c4;have a3:a6=o:=(by simpa using a2);rw [<-a3];exact B);simp only [zqq];clear c I;go_wp2;exact bodyPost_ret (results_none rfl _ _ _) rfl ⟨rfl,a0,Z⟩
def RowN (gl cl n k:Nat) (xs:List Value) (b:List Value) (w:World):Prop:=∃a,w.ownsRow 0 226 8 (.slice (some gl) n cl) n a/\At8 a k b/\But8 k xs a
def RowN.put {gl cl n k xs b w} (d:RowN gl cl n k xs b w) {j} (c:j < 8) (a):RowN gl cl n k xs (b.set j a) (w.setCell ⟨gl,k*8+j,none⟩ a):=by
 obtain ⟨i,e,f,g⟩:=d;exact ⟨_,(kk e (k*8+j) a).1,f.set c _,g.trans (But8.set k i c _)⟩
def RowN.grow {gl cl n k xs a w w'} (c:RowN gl cl n k xs a w) (b:Below w.heap.size w w'):RowN gl cl n k xs a w':=by
 obtain ⟨g,d,e,f⟩:=c;exact ⟨g,aP d b,e,f⟩
def RowN.drew {gl cl n k xs a w} (b:RowN gl cl n k xs a w):RowN gl cl n k xs a w.drew:=b
def aK9 {w:World} {b:Obj} {c:TypeId} {a:Array Value} {d:Nat} (e:(w.alloc b).heap.size=d):Bk ((w.alloc b).alloc (.cells a c)).drew d c a:=by
 subst e;exact (kd (w.alloc b) c a).drew
def aLB {gt ga gl cl n k s t b c d o e q:Nat} {xs} {rt v:Int} {w} (ht:TR w gt ga (some ⟨gl,0,none⟩) cl n xs rt v) {I N O L M:Int} (K:At8 xs k (ndL s t I N O L M)) {P Q R S T z U V:Int} {a3 a4} (E:At8 xs s [.int .i64 P,.int .i64 Q,.int .i64 b,.int .i64 d,.int .i64 e,.int .i64 R,.int .i64 S,.pointer a3]) (H:At8 xs t [.int .i64 T,.int .i64 z,.int .i64 c,.int .i64 o,.int .i64 q,.int .i64 U,.int .i64 V,.pointer a4]) (b1:b<=1000000) (b2:c<=1000000) (aB:d<=1000000) (aC:o<=1000000) (aD:e<=1000000) (aE:q<=1000000):
 Calls prog 242 #[gt,(k:Int)] w λa7 w'=>a7=.returned (.tuple #[])/\Keep (λa=>a=gl) w w'/\RowN gl cl n k xs (ndL s t ((max b c+1:Nat):Int) ((d+o:Nat):Int) ((e+q:Nat):Int) d e) w':=by
 have aF:=ht.c1;obtain ⟨k0,ah,Y,Z,a0,a1,a2,ai⟩:=ht.at K;obtain ⟨aj,ak,al,am,an,ao,ap,aq⟩:=ht.at E;obtain ⟨ar,au,av,aw,ax,ay,az,aA⟩:=ht.at H;have aN:(k:Int) < n:=zj (K.lt ht.len)
 have aO:(s:Int) < n:=zj (E.lt ht.len)
 have aQ:(t:Int) < n:=zj (H.lt ht.len)
 obtain ⟨aG,D⟩:=fE ht.row;have m:=D.lt;have aM:=ht.a.lt;have aL:gt≠gl:=Bk.ne ht.a D dC;have a8:=λr=>D.frozen r;clear E H;go_enter func242,ntmps242;go_upto_region 3 with fail;go_cut [5,6] from 34 (λx y u=>∃i l,x=.pointer (some ⟨i,0,none⟩)/\y=.pointer (some ⟨l,0,none⟩)/\Bk u i 226 #[(P:Int),(Q:Int),(b:Int),(d:Int),(e:Int),(R:Int),(S:Int),.pointer a3]/\Bk u l 226 #[(T:Int),(z:Int),(c:Int),(o:Int),(q:Int),(U:Int),(V:Int),.pointer a4]/\Below w.heap.size w u/\w.heap.size<=i/\w.heap.size<=l)
 case first=>
  go_region
  .go_wp2_with fail;go_meet;exact ⟨w.heap.size,w.heap.size+1,rfl,rfl,((kd w _ _).alloc _).drew,aK9 (sZ0 w _),((bR.alloc nL _).alloc (by rw [sZ0];omega) _).drew,zAs _,zDT _⟩
  .go_wp2_with fail;go_meet;exact ⟨w.heap.size+1,w.heap.size,rfl,rfl,aK9 (sZ0 w _),((kd w _ _).alloc _).drew,((bR.alloc nL _).alloc (by rw [sZ0];omega) _).drew,zDT _,zAs _⟩
 case rest=>
 obtain ⟨i,l,rfl,rfl,B,C,f,aI,aJ⟩:=hcut;have ae:RowN gl cl n k xs (ndL s t I N O L M) wc:=⟨xs,aP ht.row f,K,But8.refl _ _⟩;have aR:i≠gl:=oM;have aS:l≠gl:=oM;have aK:gl < wc.heap.size:=zAl m f.size;have aH:∀r,wc.frozen? ⟨gl,r,none⟩=false:=λr=>(D.below f m).frozen r;have aY:wc.cell? ⟨i,2,none⟩=some (.int .i64 b):=(B.cell 2).trans rfl;have aZ:wc.cell? ⟨i,3,none⟩=some (.int .i64 d):=(B.cell 3).trans rfl;have b0:wc.cell? ⟨i,4,none⟩=some (.int .i64 e):=(B.cell 4).trans rfl;have b3:wc.cell? ⟨l,2,none⟩=some (.int .i64 c):=(C.cell 2).trans rfl;have b4:wc.cell? ⟨l,3,none⟩=some (.int .i64 o):=(C.cell 3).trans rfl;have b5:wc.cell? ⟨l,4,none⟩=some (.int .i64 q):=(C.cell 4).trans rfl;have aT:wc.cell? ⟨gl,k*8+2,none⟩=some (.int .i64 I):=(f.cell (by exact m)).trans Y;have aU:wc.cell? ⟨gl,k*8+3,none⟩=some (.int .i64 N):=(f.cell (by exact m)).trans Z;have aV:wc.cell? ⟨gl,k*8+4,none⟩=some (.int .i64 O):=(f.cell (by exact m)).trans a0;have aW:wc.cell? ⟨gl,k*8+5,none⟩=some (.int .i64 L):=(f.cell (by exact m)).trans a1;have aX:wc.cell? ⟨gl,k*8+6,none⟩=some (.int .i64 M):=(f.cell (by exact m)).trans a2;clear B C k0 ah Y Z a0 a1 a2 ai aj ak al am an ao ap aq ar au av aw ax ay az aA a8;obtain ⟨g,J⟩:∃g:Nat,max b c+1=g:=⟨_,rfl⟩;go_upto_region 4 with fail;go_cut [60] from 54 (λv u=>u=wc.setCell ⟨gl,k*8+2,none⟩ (.int .i64 g))
 case first=>
  rcases zBe b c with ad | ad
  .have a9:((c:Nat):Int)+1=g:=(zj J);have aa:max (b:Int) (c:Int)=(c:Int):=oM;go_wp2_with fail
   all_goals (go_meet;rfl)
  .have a9:((b:Nat):Int)+1=g:=(zj J);have aa:max (b:Int) (c:Int)=(b:Int):=oM;go_wp2_with fail
   all_goals (go_meet;rfl)
 case rest=>
 subst hcut;have af:=ae.put (j:=2) oM (.int .i64 g);have ab:Keep (λa=>a=gl) w (wc.setCell ⟨gl,k*8+2,none⟩ (.int .i64 g)):=ka (F:=λa=>a=gl) (kF f) (p:=⟨gl,k*8+2,none⟩) (.inl rfl) _;go_wp2_with fail
 go_region
 have ag:=(af.put (j:=3) oM (.int .i64 ((d:Int)+o))).put (j:=4) oM (.int .i64 ((e:Int)+q));have ac:=ka (F:=λa=>a=gl) (ka (F:=λa=>a=gl) ab (p:=⟨gl,k*8+3,none⟩) (.inl rfl) (.int .i64 ((d:Int)+o))) (p:=⟨gl,k*8+4,none⟩) (.inl rfl) (.int .i64 ((e:Int)+q));go_wp2_with fail
 go_region
 have X:=(ag.drew.put (j:=5) oM (.int .i64 d)).put (j:=6) oM (.int .i64 e);have W:=ka (F:=λa=>a=gl) (ka (F:=λa=>a=gl) ac.drew (p:=⟨gl,k*8+5,none⟩) (.inl rfl) (.int .i64 d)) (p:=⟨gl,k*8+6,none⟩) (.inl rfl) (.int .i64 e);have a6:=X.drew;have a5:=W.drew;clear X W;go_wp2;have z:((max b c+1:Nat):Int)=g:=zj J
 refine bodyPost_end (results_none rfl _ _ _) rfl ?_;rw [z,Int.natCast_add,Int.natCast_add];exact ⟨rfl,a5,a6⟩
def aIT:(prog.info? 226).map (λa=>(a.zero,a.size,a.bytes))=some (some (.agg #[o0,o0,o0,o0,o0,o0,o0,.pointer none]),8,64):=by kernel_rfl
def aAf {w a c d cs} (b:Bk w a d cs) (e:cs.size=c):Rd w w.heap.size c (some ⟨a,0,none⟩) 1 cs.toList:=by
 refine ⟨by rw [Nat.one_mul,<-e];simp,λ_=>⟨a,0,rfl,b.lt,λg i f=>?_⟩⟩;rw [zBi,b.cell];simpa using f
def Got (n:Nat) (fr:List Nat) (a c:Nat) (b:List Nat):Prop:=(fr=b++ [a]/\c=n/\a < n)∨(fr= []/\b= []/\a=n/\c=n+1)
section
variable (F : Nat -> Prop) (gt ga : Nat) (A : Option Addr) (cap n : Nat) (xs : List Value) (tk : List Bool) (fr : List Nat) (rt v : Int) (a0 a1 a2 a3 a4 a5 a6 : Int) (p : Option Addr) (w : World) (R : Nat -> World -> Prop)
def aK4 (d:TX w F gt ga A cap n xs tk [] rt v) (aq:∀a,w.heap.size<=a->F a) (ay:n<=100000)
 (bh:∀k aL ai aQ b0 aa bC w1,Got n [] k aL ai->TX w1 F gt ga aQ b0 aL aa bC ai rt v->At8 aa k [.int .i64 a0,.int .i64 a1,.int .i64 a2,.int .i64 a3,.int .i64 a4,.int .i64 a5,.int .i64 a6,.pointer p]->But8 k xs aa->LK F [] w w1->Calls prog 242 #[gt,(k:Int)] w1 λb w'=>b=.returned (.tuple #[])/\R k w'):
 Calls prog 245 #[gt,.agg #[(a0:Int),(a1:Int),(a2:Int),(a3:Int),(a4:Int),(a5:Int),(a6:Int),.pointer p]] w λb w'=>∃k,b=.returned (.int .i64 (k:Nat))/\R k w':=by
 obtain ⟨bw,bj,bt,bu,bv⟩:=info_parts aIT;obtain ⟨ac,ah,ab,ag,V,aM,aN,aO,bA⟩:=d.V.2;have a8:=V.alloc (.cells #[(a0:Int),(a1:Int),(a2:Int),(a3:Int),(a4:Int),(a5:Int),(a6:Int),.pointer p] 226);have a9:=aP aM (bR.alloc nL (.cells #[(a0:Int),(a1:Int),(a2:Int),(a3:Int),(a4:Int),(a5:Int),(a6:Int),.pointer p] 226));rw [d.Y] at a8 a9;have aH:=oP 0 ga ab ag tk _ a8 a9 (zAp _) oM;have bL:=d.rd.a.lt;have bK:=V.lt;have ap:=d.rd.a.alloc (.cells #[(a0:Int),(a1:Int),(a2:Int),(a3:Int),(a4:Int),(a5:Int),(a6:Int),.pointer p] 226);have aG:=aP d.rd.row (bR.alloc nL (.cells #[(a0:Int),(a1:Int),(a2:Int),(a3:Int),(a4:Int),(a5:Int),(a6:Int),.pointer p] 226));have bP:gt≠ga:=Bk.ne d.rd.a V dC;have aK:=kd w 226 #[(a0:Int),(a1:Int),(a2:Int),(a3:Int),(a4:Int),(a5:Int),(a6:Int),.pointer p];have bf:=d.rd.c0;have aV:=(λa (b:(Value.slice A n cap).ownBlock=some a)=>(d.rd.row.lt a b).2);have af:=d.own;have ad:=d.W;have ae:=d.V.1;have u:=lhd d.Y;have aX:=d.au;have aT:=(aP aN (bR.alloc nL (.cells #[(a0:Int),(a1:Int),(a2:Int),(a3:Int),(a4:Int),(a5:Int),(a6:Int),.pointer p] 226)));have au:LK F [] w (w.alloc (.cells #[(a0:Int),(a1:Int),(a2:Int),(a3:Int),(a4:Int),(a5:Int),(a6:Int),.pointer p] 226)):=LK.below (bR.alloc nL _);clear V aM aN d;go_enter func245,ntmps245;go_wp2_with fail;obtain ⟨j,bi⟩:=eqx w.heap.size;refine aH.mono ?_;rintro b w1 ⟨rfl,z,bU,al,Z,aJ⟩;clear aH;have L:∀a M cs,Bk (w.alloc (.cells #[(a0:Int),(a1:Int),(a2:Int),(a3:Int),(a4:Int),(a5:Int),(a6:Int),.pointer p] 226)) a M cs->M≠173->M≠4->¬(a=ga∨(Value.slice ac n ah).ownBlock=some a):=λa M cs g x T b=>by rcases b with b | b;subst b;exact x (aU g a8).1;exact T (nZ a9 b g)
 have P:=z.d ap (L _ _ _ ap dC dC);have K:=aC (w':=w1) aG λa cs _ g=>z.d g (L _ _ _ g dC dC);have br:Bk w1 j 226 #[(a0:Int),(a1:Int),(a2:Int),(a3:Int),(a4:Int),(a5:Int),(a6:Int),.pointer p]:=by rw [<-bi];exact z.d aK (L _ _ _ aK dC dC)
 have aD:=aC (w':=w1) aT λa cs _ g=>z.d g (L _ _ _ g dC dC);have aj:∀a,a < (w.alloc (.cells #[(a0:Int),(a1:Int),(a2:Int),(a3:Int),(a4:Int),(a5:Int),(a6:Int),.pointer p] 226)).heap.size->(a=ga∨(Value.slice ac n ah).ownBlock=some a)->F a:=λa _ b=>by rcases b with b | b;rw [b];exact ae;have:=aO a;rw [u.out] at this;exact this b
 have av:LK F [] w w1:=au.trans (LK.of z aj λa cs b g=>L a _ cs g dC dC b);obtain ⟨aR,b1,a7,_,_⟩:=aZ Z;have bd:ArenaE w1 F ga (tk++ [true]) []:=by
  have Y:(tk++ [true]).length=n+1:=by rw [zAi,u.out];rfl
  refine ⟨ae,aR,b1,ab,ag,?_,?_,aD,λa m=>?_,bA⟩;rw [Y,<-a7];exact al;rw [Y,<-a7];exact Z;rw [Y,<-a7] at m;rcases aJ with b |⟨l,b,Q⟩;have:=aO a;rw [u.out] at this;exact this (b ▸ m);rw [m] at b;injection b with b;subst b;refine aq a ?_;rw [sZ0] at Q;omega
 have az:¬(Value.slice A n cap).ownBlock=some gt:=λb=>absurd (nZ K b P) dC;have bp:=z.size;rw [sZ0] at bp;have bl:¬(Value.slice A n cap).ownBlock=some j:=λb=>by
  have:=aG.lt j b;have T:=(au).keep.size;have bI:j < w.heap.size:=by rcases aV j b with b9;exact b9
  omega
 have bQ:w1.cell? ⟨gt,1,none⟩=some (.slice A n cap):=(P.cell 1).trans rfl;have bM:=P.lt;clear aD aj al Z aJ z L bf;go_wp2_with fail;refine wp_region_any kR<|cQ 10 [22,23,24,25,26,27,28,29,30,31] (λa=>(Value.slice A n cap).ownBlock=some a) 7 [7] (λv W=>W.ownsRow 0 226 8 v (n+1) (xs++ [.int .i64 a0,.int .i64 a1,.int .i64 a2,.int .i64 a3,.int .i64 a4,.int .i64 a5,.int .i64 a6,.pointer p])/\(v.ownBlock=(Value.slice A n cap).ownBlock∨∃l,v.ownBlock=some l/\w1.heap.size<=l)) [is gt,is gt,is gt,is (.pointer (some ⟨gt,1,none⟩)),is (.slice A n cap),is (.agg #[(a0:Int),(a1:Int),(a2:Int),(a3:Int),(a4:Int),(a5:Int),(a6:Int),.pointer p]),pT (λa=>(Value.slice A n cap).ownBlock=some a) 226 #[(a0:Int),(a1:Int),(a2:Int),(a3:Int),(a4:Int),(a5:Int),(a6:Int),.pointer p] λl=>.slice (some ⟨l,0,none⟩) 1 1,cO,is gt,is (.pointer (some ⟨gt,1,none⟩))] _ rfl dC kR kR kR K (λW bV d _ Q=>aP d Q) (λ_ _ _ ⟨x,T⟩ k=>⟨aP x k,T⟩) tA3 ?_ ?_
 .refine bB<|pH3 0 (.pointer (some gt))<|pH3 0 (.pointer (some gt))<|pV3 1 23<|pV3 2 24<|pL3 3 25 (λe c=>have c:Keep (λa=>(Value.slice A n cap).ownBlock=some a) w1 e:=kD c;(((c.d P az).cell 1).trans rfl:e.cell? ⟨gt,1,none⟩=some (.slice A n cap))) ?_;refine sC3 (λH e c _ _ _ bm _ _ _ _ y=>?_) ?_
  .replace c:Keep (λa=>(Value.slice A n cap).ownBlock=some a) w1 e:=kD c;have bF:H (.tmp 3)=.pointer (some ⟨j,0,none⟩):=bm 3 kR;have s:=c.d br bl;have bX:e.cell? ⟨j,0,none⟩=some (.int .i64 a0):=(s.cell 0).trans rfl;have bY:e.cell? ⟨j,1,none⟩=some (.int .i64 a1):=(s.cell 1).trans rfl;have bZ:e.cell? ⟨j,2,none⟩=some (.int .i64 a2):=(s.cell 2).trans rfl;have c1:e.cell? ⟨j,3,none⟩=some (.int .i64 a3):=(s.cell 3).trans rfl;have c2:e.cell? ⟨j,4,none⟩=some (.int .i64 a4):=(s.cell 4).trans rfl;have c3:e.cell? ⟨j,5,none⟩=some (.int .i64 a5):=(s.cell 5).trans rfl;have c4:e.cell? ⟨j,6,none⟩=some (.int .i64 a6):=(s.cell 6).trans rfl;have c5:e.cell? ⟨j,7,none⟩=some (.pointer p):=(s.cell 7).trans rfl;go_simp;exact kq y rfl
  refine sC3 (λ_ e c _ _ _ _ r _ _ _ y=>?_) ?_
  .replace c:Keep (λa=>(Value.slice A n cap).ownBlock=some a) w1 e:=kD c;have bE:_=_:=r 5 27 kR rfl;go_simp;exact y _ _ (aE (bR.alloc nL _)) ⟨_,rfl,kd _ _ _,λd=>by have:=(K.lt _ d).2;have:=c.size;omega⟩
  refine sC3 (λH e c bb _ _ _ r _ _ bc y=>?_) ?_;replace c:Keep (λa=>(Value.slice A n cap).ownBlock=some a) w1 e:=kD c;have bn:=bb rfl;have b4:_=_:=r 4 26 kR rfl;have bx:(pT (λa=>(Value.slice A n cap).ownBlock=some a) 226 #[(a0:Int),(a1:Int),(a2:Int),(a3:Int),(a4:Int),(a5:Int),(a6:Int),.pointer p] λl=>.slice (some ⟨l,0,none⟩) 1 1) (H (.tmp 28)) e:=r 6 28 kR rfl;obtain ⟨b8,b5,be,bO⟩:=bx;subst bc;have bq:=c.size;refine fK e (.tmp 26) (.tmp 28) _ rfl 0 226 bw _ 8 64 underlying221 bj bt bu bv rfl dC (.slice A n cap) n xs b4 bn e.heap.size (some ⟨b8,0,none⟩) 1 1 _ b5 (aAf be rfl) (by simp [Value.oneCell']) zx oM (zAp _) ?_;intro bS B J S O;refine y _ _ (aW ⟨S.os,S.tape,S.output,S.size,λk g ay=>S.block k g (λb=>ay b.symm)⟩) ⟨J,?_⟩;rcases O with X | X;exact .inl X;exact .inr ⟨_,X,bq⟩;refine pV3 0 22<|pV3 8 30 ?_;exact aB
 intro H B N c r;replace c:Keep (λa=>(Value.slice A n cap).ownBlock=some a) w1 B:=kD c;have bz:(λv W=>W.ownsRow 0 226 8 v (n+1) (xs++ [.int .i64 a0,.int .i64 a1,.int .i64 a2,.int .i64 a3,.int .i64 a4,.int .i64 a5,.int .i64 a6,.pointer p])/\(v.ownBlock=(Value.slice A n cap).ownBlock∨∃l,v.ownBlock=some l/\w1.heap.size<=l)) (H (.tmp 29)) B:=r 7 29 dC rfl;have b7:H (.tmp 31)=.pointer (some ⟨gt,1,none⟩):=r 9 31 dC rfl;simp only [zqq];rw [b7];clear r;obtain ⟨J,O⟩:=bz;obtain ⟨C,E,b6,_,_⟩:=aZ J;rw [b6] at J O⊢;have q:=c.d P az;have bD:B.cell? ⟨gt,1,none⟩=some (.slice A n cap):=(q.cell 1).trans rfl;have bH:=q.frozen 1;have bN:=q.lt;obtain ⟨D,I⟩:=eqx (B.setCell ⟨gt,1,none⟩ (.slice C (n+1) E));have ao:Bk D gt 223 #[ga,.slice C (n+1) E,(rt:Int),(v:Int)]:=by rw [<-I];exact q.set 1 _
 have aF:D.ownsRow 0 226 8 (.slice C (n+1) E) (n+1) (xs++ [.int .i64 a0,.int .i64 a1,.int .i64 a2,.int .i64 a3,.int .i64 a4,.int .i64 a5,.int .i64 a6,.pointer p]):=by rw [<-I];exact aC J λa cs _ m=>m.m (p:=⟨gt,1,none⟩) (Bk.ne m q dC) _
 have am:=bd.keep c λa M cs U g _ b=>by have b3:=nZ K b g;subst b3;exact absurd U dC
 have an:ArenaE D F ga (tk++ [true]) []:=by rw [<-I];refine am.keep (G:=λa=>a=gt) (ka (F:=λa=>a=gt) (ke _ _) (p:=⟨gt,1,none⟩) (.inl rfl) _) λa M cs U g _ b=>?_;have b2:a=gt:=b;subst b2;rw [(aU g q).1] at U;exact absurd U dC
 have aw:LK F [] w1 B:=LK.of c (λa _ b=>af a b) λa cs b g=>absurd (nZ K b g) dC;have ax:LK F [] w D:=by rw [<-I];exact (av.trans aw).trans (LK.set q dC ad _)
 have aA:OwnF F (.slice C (n+1) E):=λa m=>by rcases O with b |⟨l,b,Q⟩;exact af a (b ▸ m);rw [m] at b;injection b with b;subst b;exact aq a (zAk av.keep.size Q)
 have aI:∀t,t < n+1->(tk++ [true])[t]?=some (decide (t∉([]:List Nat))):=λt bo=>by
  rcases zBe t n with x | x
  .rw [zAn (by rw [u.out];exact x),aX t x]
  obtain rfl:t=n:=oM;rw [zAo (by rw [u.out];omega),u.out,zDK];rfl
 have ak:TX D F gt ga C E (n+1) (xs++ [.int .i64 a0,.int .i64 a1,.int .i64 a2,.int .i64 a3,.int .i64 a4,.int .i64 a5,.int .i64 a6,.pointer p]) (tk++ [true]) [] rt v:=⟨ad,⟨ao,aF⟩,aA,an,by rw [zAi,u.out];rfl,aI⟩;have bg:=bh n (n+1) [] C E (xs++ [.int .i64 a0,.int .i64 a1,.int .i64 a2,.int .i64 a3,.int .i64 a4,.int .i64 a5,.int .i64 a6,.pointer p]) _ D (.inr ⟨rfl,rfl,rfl,rfl⟩) ak (At8.new K.1 rfl) (λt cs bo d=>d.dp _) ax;have aS:=lhd I;clear q J O I ao aF am an aw ax aA aI ak;change wpAny prog Region.Mode.any _ _ (1+N) (bT 10 11) _ B;rw [zCt 1 N];refine aY (f:=N) (i:=10) kR ?_;refine bJ rfl rfl ?_;generalize y:wpAny prog _ _ _ N _=K5;go_simp;subst y;refine bG kR ?_;rw [aS.out];go_wp2_with fail;refine bg.mono ?_;rintro b bW ⟨rfl,ba⟩;go_wp2_with fail;go_ret;exact ⟨n,rfl,ba⟩
def aK3 (a) (e:TX w F gt ga A cap n xs tk (fr++ [a]) rt v) (b5:∀c,w.heap.size<=c->F c) (be:n<=100000) (M:a < n) (aF:(fr++ [a]).Nodup) (ay:fr.length < n) (ax:∀z ai X aj am O aJ w1,Got n (fr++ [a]) z ai X->TX w1 F gt ga aj am ai O aJ X rt v->At8 O z [.int .i64 a0,.int .i64 a1,.int .i64 a2,.int .i64 a3,.int .i64 a4,.int .i64 a5,.int .i64 a6,.pointer p]->But8 z xs O->LK F [] w w1->Calls prog 242 #[gt,(z:Int)] w1 λb w'=>b=.returned (.tuple #[])/\R z w'):
 Calls prog 245 #[gt,.agg #[(a0:Int),(a1:Int),(a2:Int),(a3:Int),(a4:Int),(a5:Int),(a6:Int),.pointer p]] w λb w'=>∃a,b=.returned (.int .i64 (a:Nat))/\R a w':=by
 obtain ⟨f,aU,rfl,K⟩:=e.rd.ex oM;obtain ⟨B,ap,Z,Y,a8⟩:=e.V.own;have aD:Keep B w (w.alloc (.cells #[(a0:Int),(a1:Int),(a2:Int),(a3:Int),(a4:Int),(a5:Int),(a6:Int),.pointer p] 226)):=kF (bR.alloc nL _);have u:=a8.keep (G:=λ_=>False) (kF ((kg w.heap.size w).alloc nL (.cells #[(a0:Int),(a1:Int),(a2:Int),(a3:Int),(a4:Int),(a5:Int),(a6:Int),.pointer p] 226))) (λ_ _ _ _ _ _ t=>t);have ae:=yF u (by rw [e.Y];exact M) (by rw [e.Y];omega) (by rw [e.Y];exact ay);have H:∀c s cs,Bk w c s cs->s≠173->s≠4->s≠3->¬B c:=λc s cs q C an ao aw=>by rcases Z c s cs aw q with b | b | b;exact C b;exact an b;exact ao b
 have b9:=e.rd.a.lt;have b6:=K.lt;have au:=e.rd.c0;have aG:=kd w 226 #[(a0:Int),(a1:Int),(a2:Int),(a3:Int),(a4:Int),(a5:Int),(a6:Int),.pointer p];have aB:¬B w.heap.size:=λt=>by have:=Y _ t;omega
 have bc:((a:Int)==n)=false:=by rw [zCb];omega
 have bd:(a:Int) < n:=oM;have af:tk.length=n:=e.Y;have P:=ap;clear Z a8 u;go_enter func245,ntmps245;go_wp2_with fail;obtain ⟨k,aA⟩:=eqx w.heap.size;refine ae.mono ?_;rintro b w1 ⟨rfl,u,L⟩;clear ae;have x:Keep B w w1:=aD.trans L;have E:=x.d e.rd.a (H _ _ _ e.rd.a dC dC dC);have ad:=aC (w':=w1) e.rd.row λc cs _ q=>x.d q (H _ _ _ q dC dC dC);have g:Bk w1 k 226 #[(a0:Int),(a1:Int),(a2:Int),(a3:Int),(a4:Int),(a5:Int),(a6:Int),.pointer p]:=by rw [<-aA];exact L.d aG aB
 have d:=x.d K (H _ _ _ K dC dC dC);have y:LK F [] w w1:=LK.of x (λc _ b=>P c b) λc cs b q=>by rcases zBe c w.heap.size with J | J;exact H c _ cs q dC dC dC b;exact absurd (Y c b) oM
 have ag:∀r,r < n->(tk.set a true)[r]?=some (decide (r∉fr)):=λr ac=>by
  have aE:a∉fr:=by have C:=aF;rw [zDb] at C;exact λaI=>C.2.2 a aI a zs rfl
  by_cases b:r=a
  .subst b;rw [zDq (by rw [af];exact ac)];simp [aE]
  .rw [zDr (λaL=>b aL.symm),e.au r ac];simp [b]
 have m:TX w1 F gt ga (some ⟨f,0,none⟩) cap n xs (tk.set a true) fr rt v:=⟨e.W,⟨E,ad⟩,e.own,u.mono λc _ t=>P c t,by rw [zAt];exact af,ag⟩;have aH:w1.cell? ⟨gt,1,none⟩=some (.slice (some f) n cap):=(E.cell 1).trans rfl;have ba:=E.lt;have b7:=d.lt;have bb:=g.lt;have aM:w1.cell? ⟨k,0,none⟩=some (.int .i64 a0):=(g.cell 0).trans rfl;have aN:w1.cell? ⟨k,1,none⟩=some (.int .i64 a1):=(g.cell 1).trans rfl;have aO:w1.cell? ⟨k,2,none⟩=some (.int .i64 a2):=(g.cell 2).trans rfl;have aP:w1.cell? ⟨k,3,none⟩=some (.int .i64 a3):=(g.cell 3).trans rfl;have aQ:w1.cell? ⟨k,4,none⟩=some (.int .i64 a4):=(g.cell 4).trans rfl;have aR:w1.cell? ⟨k,5,none⟩=some (.int .i64 a5):=(g.cell 5).trans rfl;have aS:w1.cell? ⟨k,6,none⟩=some (.int .i64 a6):=(g.cell 6).trans rfl;have aT:w1.cell? ⟨k,7,none⟩=some (.pointer p):=(g.cell 7).trans rfl;have Q:=m;have I:=d;have S:=y;clear m d y E ad g x L u ag au;go_wp2_with fail
 go_still_tail 7,kR
 change wpList _ _ _ _ _ w1.drew;have D:Below w1.heap.size w1 w1.drew:=bR.drew;have m:=Q.below D;have d:=I.below D I.lt;have y:=S.trans (LK.below (F:=F) (bl:= []) D);clear Q I S D aH aM aN aO aP aQ aR aS aT;generalize w1.drew=w2 at*
 have b8:=d.lt;obtain ⟨bf,bg,bh,bi,bj,bm,bn,bo,N⟩:=At8.ex m.rd.len M;obtain ⟨bq,br,bt,bu,bv,bw,bx,bz⟩:=m.rd.at N;have aV:=d.frozen (a*8);have aW:=d.frozen (a*8+1);have aX:=d.frozen (a*8+2);have aY:=d.frozen (a*8+3);have aZ:=d.frozen (a*8+4);have b0:=d.frozen (a*8+5);have b3:=d.frozen (a*8+6);have b4:=d.frozen (a*8+7);have a7:=(((((((m.put (a*8) (.int .i64 a0)).put (a*8+1) (.int .i64 a1)).put (a*8+2) (.int .i64 a2)).put (a*8+3) (.int .i64 a3)).put (a*8+4) (.int .i64 a4)).put (a*8+5) (.int .i64 a5)).put (a*8+6) (.int .i64 a6)).put (a*8+7) (.pointer p);have a9:=(((((((N.set (j:=0) oM (.int .i64 a0)).set (j:=1) oM (.int .i64 a1)).set (j:=2) oM (.int .i64 a2)).set (j:=3) oM (.int .i64 a3)).set (j:=4) oM (.int .i64 a4)).set (j:=5) oM (.int .i64 a5)).set (j:=6) oM (.int .i64 a6)).set (j:=7) oM (.pointer p);have aa:=(((((((But8.set a xs (j:=0) oM (.int .i64 a0)).trans (But8.set a _ (j:=1) oM (.int .i64 a1))).trans (But8.set a _ (j:=2) oM (.int .i64 a2))).trans (But8.set a _ (j:=3) oM (.int .i64 a3))).trans (But8.set a _ (j:=4) oM (.int .i64 a4))).trans (But8.set a _ (j:=5) oM (.int .i64 a5))).trans (But8.set a _ (j:=6) oM (.int .i64 a6))).trans (But8.set a _ (j:=7) oM (.pointer p));have ab:LK F [] w ((((((((w2.setCell ⟨f,a*8,none⟩ (.int .i64 a0)).setCell ⟨f,a*8+1,none⟩ (.int .i64 a1)).setCell ⟨f,a*8+2,none⟩ (.int .i64 a2)).setCell ⟨f,a*8+3,none⟩ (.int .i64 a3)).setCell ⟨f,a*8+4,none⟩ (.int .i64 a4)).setCell ⟨f,a*8+5,none⟩ (.int .i64 a5)).setCell ⟨f,a*8+6,none⟩ (.int .i64 a6)).setCell ⟨f,a*8+7,none⟩ (.pointer p)):=by have az:F f:=OwnF.at e.own;have l:=λ(ak:World) (cs:Array Value) (ah:Nat) (aK:Value) (J:Bk ak f 226 cs)=>LK.set (F:=F) (bl:= []) (i:=ah) J dC az aK;have b1:=d.set (a*8) (.int .i64 a0);have b2:=b1.set (a*8+1) (.int .i64 a1);have T:=b2.set (a*8+2) (.int .i64 a2);have U:=T.set (a*8+3) (.int .i64 a3);have V:=U.set (a*8+4) (.int .i64 a4);have W:=V.set (a*8+5) (.int .i64 a5);have al:=W.set (a*8+6) (.int .i64 a6);exact (((((((y.trans (l _ _ _ _ d)).trans (l _ _ _ _ b1)).trans (l _ _ _ _ b2)).trans (l _ _ _ _ T)).trans (l _ _ _ _ U)).trans (l _ _ _ _ V)).trans (l _ _ _ _ W)).trans (l _ _ _ _ al)
 have av:=ax a n fr _ _ _ _ _ (.inl ⟨rfl,rfl,M⟩) a7 a9 aa ab;clear m a7 a9 aa ab y d N;go_wp2_with fail;refine av.mono ?_;rintro b bp ⟨rfl,aq⟩;go_wp2_with fail;go_ret;exact ⟨a,rfl,aq⟩
end
def TS (w:World) (F:Nat->Prop) (gt n:Nat) (xs:List Value) (fr:List Nat) (rt v:Int):Prop:=∃ga A cap tk,TX w F gt ga A cap n xs tk fr rt v
section
variable {w w' : World} {F G : Nat -> Prop} {gt ga cap n : Nat} {A : Option Addr} {xs ys : List Value} {tk : List Bool} {fr : List Nat} {rt v : Int}
def TX.av {b} (a:TX w F gt ga (some ⟨b,0,none⟩) cap n xs tk fr rt v) (f:Keep (λc=>c=b) w w') (k:w'.ownsRow 0 226 8 (.slice (some b) n cap) n ys):TX w' F gt ga (some ⟨b,0,none⟩) cap n ys tk fr rt v:=by
 obtain ⟨l,d⟩:=fE a.rd.row;refine ⟨a.W,⟨f.d a.rd.a (Bk.ne a.rd.a d dC),k⟩,a.own,a.V.keep f λc m cs e j _ g=>?_,a.Y,a.au⟩;have i:c=b:=g;subst i;rw [(aU j d).1] at e;exact absurd e dC
def TX.lk {c} (d:TX w F gt ga (some ⟨c,0,none⟩) cap n xs tk fr rt v) (i:Keep (λa=>a=c) w w'):LK F [] w w':=by
 obtain ⟨j,f⟩:=fE d.rd.row;refine LK.of i (λa _ b=>by rw [b];exact OwnF.at d.own) λa cs b g=>?_;have e:a=c:=b;subst e;exact absurd (aU g f).1 dC
def TS.ab (a:TS w F gt n xs fr rt v) (b):TS (w.setCell ⟨gt,3,none⟩ (.int .i64 b)) F gt n xs fr rt b:=by
 obtain ⟨ga,A,cap,tk,a⟩:=a;exact ⟨ga,A,cap,tk,a.ab b⟩
def TS.b4 (a:TS w F gt n xs fr rt v) (c b):LK F [] w (w.setCell ⟨gt,c,none⟩ b):=by
 obtain ⟨ga,A,cap,tk,a⟩:=a;exact LK.set a.rd.a dC a.W b
def TS.below (a:TS w F gt n xs fr rt v) (b:Below w.heap.size w w'):TS w' F gt n xs fr rt v:=by
 obtain ⟨ga,A,cap,tk,a⟩:=a;exact ⟨ga,A,cap,tk,a.below b⟩
def TS.len (a:TS w F gt n xs fr rt v):xs.length=n*8:=by
 obtain ⟨ga,A,cap,tk,a⟩:=a;exact a.rd.len
def TS.lt (a:TS w F gt n xs fr rt v):gt < w.heap.size:=by
 obtain ⟨ga,A,cap,tk,a⟩:=a;exact a.rd.a.lt
def TS.a {b cs} (c:TS w F gt n xs fr rt v) (g:Bk w b 240 cs) (j:Keep (λa=>a=b) w w'):TS w' F gt n xs fr rt v:=by
 obtain ⟨ga,A,cap,tk,c⟩:=c;refine ⟨ga,A,cap,tk,c.keep j λa l k d i _ e=>?_⟩;have f:a=b:=e;subst f;rw [(aU i g).1] at d;exact absurd d dC
def TS.dd {e f cs i} (d:TS w F gt n xs fr rt v) (j:Bk w e 240 cs) (k:Bk w f 240 i) (l:Keep (λc=>c=e∨c=f) w w'):TS w' F gt n xs fr rt v:=by
 obtain ⟨ga,A,cap,tk,d⟩:=d;refine ⟨ga,A,cap,tk,d.keep l λc q m b g _ a=>?_⟩;rcases a with a | a;subst a;rw [(aU g j).1] at b;exact absurd b dC;subst a;rw [(aU g k).1] at b;exact absurd b dC
end
def KT (gt:Nat) (w w':World):Prop:=∀cs,Bk w gt 223 cs->Bk w' gt 223 cs
def KT.trans {gt w w1 w'} (a:KT gt w w1) (c:KT gt w1 w'):KT gt w w':=λcs b=>c cs (a cs b)
def KT.below {gt w w'} (b:Below w.heap.size w w'):KT gt w w':=λcs a=>a.below b a.lt
def KT.keep {gt a w w' d} (f:Keep (λc=>c=a) w w') (e:Bk w a 226 d):KT gt w w':=λcs b=>f.d b (Bk.ne b e dC)
def aO3 (F:Nat->Prop) (gt n b:Nat) (xs:List Value) (fr:List Nat) (rt v:Int) (cs:List Value) (w w':World):Prop:=∃a,TS w' F gt n a fr rt v/\At8 a b cs/\But8 b xs a/\LK F [] w w'/\KT gt w w'
def lU {F gt n k gb xs fr rt v bs w} (a:TS w F gt n xs fr rt v) {x0 y0} (d:At8 xs k (lH x0 y0 gb)) (e:Bk w gb 240 (dL bs)) (g:bs.length<=128):
 Calls prog 242 #[gt,(k:Int)] w λc w'=>c=.returned (.tuple #[])/\aO3 F gt n k xs fr rt v (lH (bs.length:Int) ((bs.count true:Nat):Int) gb) w w':=by
 obtain ⟨ga,A,cap,tk,a⟩:=a;obtain ⟨q,m,rfl,f⟩:=a.rd.ex (zj (d.lt a.rd.len));refine (aLC a.rd d e g).mono ?_;rintro c w' ⟨rfl,b,ys,i,j,l⟩;exact ⟨rfl,ys,⟨ga,_,cap,tk,a.av b i⟩,j,l,a.lk b,KT.keep b f⟩
def kG {F} {gt n k l r hl hr nl nr ol or_:Nat} {xs fr} {rt v:Int} {w} (a:TS w F gt n xs fr rt v) {x C D z B:Int} (d:At8 xs k (ndL l r x C D z B)) {a0 a1 a5 a6 q s t u:Int} {E H} (e:At8 xs l (xA a0 a1 hl nl ol a5 a6 E)) (f:At8 xs r (xA q s hr nr or_ t u H)) (b1:hl<=1000000) (b2:hr<=1000000) (g:nl<=1000000) (i:nr<=1000000) (j:ol<=1000000) (m:or_<=1000000):
 Calls prog 242 #[gt,(k:Int)] w λc w'=>c=.returned (.tuple #[])/\aO3 F gt n k xs fr rt v (ndL l r ((max hl hr+1:Nat):Int) ((nl+nr:Nat):Int) ((ol+or_:Nat):Int) nl ol) w w':=by
 obtain ⟨ga,A,cap,tk,a⟩:=a;obtain ⟨M,L,rfl,y⟩:=a.rd.ex (zj (d.lt a.rd.len));refine (aLB a.rd d e f b1 b2 g i j m).mono ?_;rintro c w' ⟨rfl,b,ys,I,J,K⟩;exact ⟨rfl,ys,⟨ga,_,cap,tk,a.av b I⟩,J,K,a.lk b,KT.keep b y⟩
def aD3 (n:Nat) (fr:List Nat):Prop:=fr.Nodup/\(∀a,a∈fr->a < n)/\(fr≠ []->fr.length<=n)
def aHy (F:Nat->Prop) (gt n:Nat) (xs:List Value) (fr:List Nat) (rt v:Int) (cs:List Value) (w:World) (a:Nat) (w':World):Prop:=∃d b c,Got n fr a d c/\TS w' F gt d b c rt v/\At8 b a cs/\But8 a xs b/\LK F [] w w'
section
variable (F : Nat -> Prop) (gt n : Nat) (xs : List Value) (fr : List Nat) (rt v : Int) (a0 a1 a2 a3 a4 a5 a6 : Int) (p : Option Addr) (w : World) (cs : List Value)
def aFF (f:TS w F gt n xs fr rt v) (t:∀l,w.heap.size<=l->F l) (x:n<=100000) (j:aD3 n fr)
 (B:∀a e c d w1,Got n fr a e c->TS w1 F gt e d c rt v->At8 d a [.int .i64 a0,.int .i64 a1,.int .i64 a2,.int .i64 a3,.int .i64 a4,.int .i64 a5,.int .i64 a6,.pointer p]->But8 a xs d->LK F [] w w1->
  Calls prog 242 #[gt,(a:Int)] w1 λb w'=>b=.returned (.tuple #[])/\aO3 F gt e a d c rt v cs w1 w'):
 Calls prog 245 #[gt,.agg #[(a0:Int),(a1:Int),(a2:Int),(a3:Int),(a4:Int),(a5:Int),(a6:Int),.pointer p]] w λb w'=>∃a,b=.returned (.int .i64 (a:Nat))/\aHy F gt n xs fr rt v cs w a w':=by
 obtain ⟨ga,A,cap,tk,f⟩:=f
 have s:∀a e c g i d k w1,Got n fr a e c->TX w1 F gt ga g i e d k c rt v->At8 d a [.int .i64 a0,.int .i64 a1,.int .i64 a2,.int .i64 a3,.int .i64 a4,.int .i64 a5,.int .i64 a6,.pointer p]->But8 a xs d->LK F [] w w1->
  Calls prog 242 #[gt,(a:Int)] w1 λb w'=>b=.returned (.tuple #[])/\aHy F gt n xs fr rt v cs w a w':=λa e c g i d k w1 m y z q r=>by
  refine (B a e c d w1 m ⟨ga,g,i,k,y⟩ z q r).mono ?_;rintro b w' ⟨rfl,ys,C,D,E,H,_⟩;exact ⟨rfl,e,ys,c,m,C,D,q.trans E,r.trans H⟩
 rcases zDL fr with b |⟨c,a,b⟩;subst b;exact aK4 F gt ga A cap n xs tk rt v a0 a1 a2 a3 a4 a5 a6 p w _ f t x s;rw [zDW] at b;subst b;have u:=j.2.2 zs;rw [zAi] at u;exact aK3 F gt ga A cap n xs tk c rt v a0 a1 a2 a3 a4 a5 a6 p w _ a f t x (j.2.1 a zs) j.1 (by simp only [zCg,zDM] at u;omega) s
end
def aBl {F gt n gb xs fr rt v bs w} (g:TS w F gt n xs fr rt v) (j:∀b,w.heap.size<=b->F b) (l:n<=100000) (m:aD3 n fr) (i:Bk w gb 240 (dL bs)) (k:bs.length<=128):
 Calls prog 233 #[gt,gb] w λc w'=>∃a,c=.returned (.int .i64 (a:Nat))/\aHy F gt n xs fr rt v (lH (bs.length:Int) ((bs.count true:Nat):Int) gb) w a w':=by
 go_enter func233,ntmps233;go_wp2_with fail;refine (aFF F gt n xs fr rt v (-1) (-1) 0 0 0 0 0 (some ⟨gb,0,none⟩) w _ g j l m λa u r x w1 s d e t f=>lU d e (f.a gb _ zs i) k).mono ?_;rintro c w1 ⟨a,rfl,q⟩;go_wp2_with fail;go_ret;exact ⟨a,rfl,q⟩
def aFE {F gt n l r hl hr nl nr ol or_ xs fr rt v w} (q:TS w F gt n xs fr rt v) (K:∀j,w.heap.size<=j->F j) (M:n<=100000) (N:aD3 n fr) (L:l∉fr) (P:r∉fr) {a0 a1 a5 a6 C D E H S T} (g:At8 xs l (xA a0 a1 hl nl ol a5 a6 S)) (i:At8 xs r (xA C D hr nr or_ E H T)) (b1:hl<=1000000) (b2:hr<=1000000) (x:nl<=1000000) (y:nr<=1000000) (z:ol<=1000000) (B:or_<=1000000):
 Calls prog 238 #[gt,(l:Int),(r:Int)] w λb w'=>∃a,b=.returned (.int .i64 (a:Nat))/\aHy F gt n xs fr rt v (ndL l r ((max hl hr+1:Nat):Int) ((nl+nr:Nat):Int) ((ol+or_:Nat):Int) nl ol) w a w':=by
 have Q:=q.len;have t:∀a f e d cs,Got n fr a f e->d∉fr->At8 xs d cs->d≠a:=λa f e d cs I s u b=>by rcases I with ⟨c,_,_⟩|⟨_,_,k,_⟩;rw [c] at s;exact s (by simp [b]);have:=u.lt Q;omega
 go_enter func238,ntmps238;go_wp2_with fail;refine (aFF F gt n xs fr rt v l r 0 0 0 0 0 none w _ q K M N λa f e V w1 c J k m U=>kG J k (m _ _ (t _ _ _ _ _ c L g) g) (m _ _ (t _ _ _ _ _ c P i) i) b1 b2 x y z B).mono ?_;rintro b w1 ⟨a,rfl,O⟩;go_wp2_with fail;go_ret;exact ⟨a,rfl,O⟩
namespace Tr
def full_lv:∀ {b:Tr},b.Full->b.lv*32<=b.bits.length
 | lf c,a=>by have:=a.1;simp only [lv,bits];omega
 | nd f g,a=>by have d:=full_lv a.1;have e:=full_lv a.2;simp only [lv,bits,zAi];omega
def Ok.a4 {a:Tr} (b:a.Ok):a.ht<=a.bits.length:=by
 cases a with
 | lf e=>simp [ht]
 | nd c d=>
  have f:=full_lv b.2;have g:=ht_lv (nd c d);omega
def Ok.pos {a:Tr} (b:a.Ok):0 < a.bits.length:=by
 cases a with
 | lf e=>exact b.1
 | nd c d=>
  have f:=full_lv b.2;have g:=ht_lv (nd c d);omega
end Tr
def cH:Option Tr->List Bool
 | none=> []
 | some a=>a.bits
def TreeO (w:World) (gt:Nat) (o:Option Tr):Prop:=
 ∃(ga:Nat) (A:Option Addr) (cap n:Nat) (xs:List Value) (rt v:Int),TR w gt ga A cap n xs rt v/\((o=none/\rt=-1)∨∃a:LT,o=some a.er/\a.In w xs/\rt=(a.num:Int)/\a.er.Ok/\a.len<=1100)
def TreeAt (w:World) (gt:Nat) (bs:List Bool):Prop:=∃o,cH o=bs/\TreeO w gt o
section
variable {w w' : World} {gt : Nat} {bs : List Bool} {o : Option Tr}
def TreeO.b (d:TreeO w gt o) (b:Vis w w'):TreeO w' gt o:=by
 obtain ⟨ga,A,cap,n,xs,rt,v,e,a⟩:=d;obtain ⟨k,f⟩:=e.b b;refine ⟨ga,A,cap,n,xs,rt,k,f,?_⟩;rcases a with a |⟨j,c,i,g⟩;exact .inl a;exact .inr ⟨j,c,i.b b,g⟩
def TreeO.same (g:TreeO w gt o) (d:∀b a cs,a∈ [223,173,226,240,4]->Bk w b a cs->Bk w' b a cs):TreeO w' gt o:=by
 obtain ⟨ga,A,cap,n,xs,rt,v,i,c⟩:=g;refine ⟨ga,A,cap,n,xs,rt,v,i.same λb a cs ht=>d b a cs (by simp at ht;rcases ht with rfl | rfl <;> decide),?_⟩;rcases c with c |⟨a,f,l,j⟩;exact .inl c;exact .inr ⟨a,f,l.keep (λ_ _ _ e=>e) (λm _ cs k=>d _ _ _ dC k),j⟩
def TreeO.lt (a:TreeO w gt o):gt < w.heap.size:=by
 obtain ⟨ga,A,cap,n,xs,rt,v,b,c⟩:=a;exact b.a.lt
def TreeO.le (a:TreeO w gt o):(cH o).length<=1100:=by
 obtain ⟨ga,A,cap,n,xs,rt,v,d,⟨rfl,_⟩|⟨g,rfl,f,c,e,b⟩⟩:=a;exact zAp _;exact b
def TreeAt.b (a:TreeAt w gt bs) (c:Vis w w'):TreeAt w' gt bs:=by
 obtain ⟨o,b,a⟩:=a;exact ⟨o,b,a.b c⟩
def TreeAt.same (a:TreeAt w gt bs) (e:∀c b cs,b∈ [223,173,226,240,4]->Bk w c b cs->Bk w' c b cs):TreeAt w' gt bs:=by
 obtain ⟨o,d,a⟩:=a;exact ⟨o,d,a.same e⟩
def TreeAt.below (b:TreeAt w gt bs) (c:Below w.heap.size w w'):TreeAt w' gt bs:=b.same λd e cs _ a=>a.below c a.lt
def TreeAt.lt (a:TreeAt w gt bs):gt < w.heap.size:=by
 obtain ⟨o,b,a⟩:=a;exact a.lt
def TreeAt.le (a:TreeAt w gt bs):bs.length<=1100:=by
 obtain ⟨o,rfl,a⟩:=a;exact a.le
def TreeO.a3 (a:TreeO w gt o):∃v,w.cell? ⟨gt,3,none⟩=some (.int .i64 v):=by
 obtain ⟨ga,A,cap,n,xs,rt,v,b,c⟩:=a;exact ⟨v,b.c3⟩
def TreeAt.a3 (a:TreeAt w gt bs):∃v,w.cell? ⟨gt,3,none⟩=some (.int .i64 v):=by
 obtain ⟨o,b,a⟩:=a;exact a.a3
def TreeO.a (a:TreeO w gt o):∃cs,Bk w gt 223 cs/\3 < cs.size:=by
 obtain ⟨ga,A,cap,n,xs,rt,v,b,c⟩:=a;exact ⟨_,b.a,by simp⟩
end
def jL {gt} {o:Option Tr} {w} (g:TreeO w gt o):
 Calls prog 188 #[gt] w λd w'=>d=.returned (.int .i64 ((cH o).length:Int))/\Below w.heap.size w w':=by
 obtain ⟨ga,A,cap,n,xs,rt,v,a,⟨rfl,rfl⟩|⟨b,rfl,c,rfl,i,j⟩⟩:=g
 .have f:=a.c2;clear a;go_enter func188,ntmps188;go_wp2;go_ret;exact ⟨rfl,kg _ _⟩
 .obtain ⟨t,r,rfl,k⟩:=a.ex (zj (c.at.lt a.len));obtain ⟨a0,a1,a5,a6,p,e⟩:=b.R;obtain ⟨_,_,_,s,_⟩:=a.at (show At8 xs b.num [_,_,_,_,_,_,_,_] from e ▸ c.at);have q:=a.c1;have f:=a.c2;have u:(b.num:Int) < n:=(zj (c.at.lt a.len));have l:(b.num:Int)≠-1:=oM;have x:((b.num:Int)==-1)=false:=zCb.2 l;generalize b.num=tn at*
  show Calls _ _ _ w λd w'=>d=.returned (.int .i64 b.len)/\_;generalize b.len=m at*
  clear c a e k i j;go_enter func188,ntmps188;go_wp2;go_quiet (fail);go_wp2;go_ret;exact ⟨rfl,km bR _⟩
def aHi {gt} {o:Option Tr} {w} (g:TreeO w gt o):
 Calls prog 213 #[gt] w λd w'=>d=.returned (.int .i64 ((cH o).count true:Nat))/\Below w.heap.size w w':=by
 obtain ⟨ga,A,cap,n,xs,rt,v,a,⟨rfl,rfl⟩|⟨b,rfl,c,rfl,i,j⟩⟩:=g
 .have f:=a.c2;clear a;go_enter func213,ntmps213;go_wp2;go_ret;exact ⟨rfl,kg _ _⟩
 .obtain ⟨t,r,rfl,k⟩:=a.ex (zj (c.at.lt a.len));obtain ⟨a0,a1,a5,a6,p,e⟩:=b.R;obtain ⟨_,_,_,_,s,_⟩:=a.at (show At8 xs b.num [_,_,_,_,_,_,_,_] from e ▸ c.at);have q:=a.c1;have f:=a.c2;have u:(b.num:Int) < n:=(zj (c.at.lt a.len));have l:(b.num:Int)≠-1:=oM;have x:((b.num:Int)==-1)=false:=zCb.2 l;generalize b.num=tn at*
  show Calls _ _ _ w λd w'=>d=.returned (.int .i64 b.on)/\_;generalize b.on=m at*
  clear c a e k i j;go_enter func213,ntmps213;go_wp2;go_quiet (fail);go_wp2;go_ret;exact ⟨rfl,km bR _⟩
def aAX {gt:Nat} {v:Int} {w} (b:w.cell? ⟨gt,3,none⟩=some (.int .i64 v)):
 Calls prog 201 #[gt] w λa w'=>a=.returned (.int .i64 v)/\Below w.heap.size w w':=by
 go_enter func201,ntmps201;go_wp2;go_ret;exact ⟨rfl,kg _ _⟩
def pY {n o:Nat} (a w) (c:n<=100000) (d:o<=n):
 Calls prog 212 #[(n:Int),(o:Int),.bool a] w λb w'=>b=.returned (.int .i64 (if a then o else n - o:Nat))/\Below w.heap.size w w':=by
 cases a
 .go_enter func212,ntmps212;go_wp2;go_ret;exact ⟨fM oM,kg _ _⟩
 .go_enter func212,ntmps212;go_wp2;go_ret;exact ⟨fM zs,kg _ _⟩
def tL (a:List Bool):a.count true+a.count false=a.length:=by
 induction a with
 | nil=>rfl
 | cons b a c=>cases b <;> simp <;> omega
def tE (a:List Bool) (b:Bool):(if b then a.count true else a.length - a.count true)=a.count b:=by
 have:=tL a;cases b;simp;omega
 .simp
def Nd (xs:List Value) (b c f:Nat):Prop:=∃a n o d e:Int,At8 xs b (ndL c f a n o d e)
def LT.L (a:LT):Prop:=a.ht<=100000/\a.len<=100000
def LT.In.nd {w xs a} {b c:LT} (d:(LT.nd a b c).In w xs):Nd xs a b.num c.num:=⟨_,_,_,_,_,d.1⟩
def LT.In.R {w xs} {a:LT} (c:a.In w xs):∃a0 a1 a5 a6 p,At8 xs a.num (xA a0 a1 a.ht a.len a.on a5 a6 p):=by
 obtain ⟨a0,a1,a5,a6,p,b⟩:=a.R;exact ⟨a0,a1,a5,a6,p,by rw [<-b];exact c.at⟩
def LT.In.mk {w xs c} {a b:LT} (d:At8 xs c (ndL a.num b.num ((max a.ht b.ht+1:Nat):Int) ((a.len+b.len:Nat):Int) ((a.on+b.on:Nat):Int) (a.len:Int) (a.on:Int))) (e:a.In w xs) (f:b.In w xs):(LT.nd c a b).In w xs:=⟨d,e,f⟩
def nP {F gt n k hk xs fr rt v w} (a:TS w F gt n xs fr rt v) {a0 a1 a5 a6 l o p} (b:At8 xs k (xA a0 a1 hk l o a5 a6 p)):
 Calls prog 256 #[gt,(k:Int)] w λf w'=>f=.returned (.int .i64 hk)/\TS w' F gt n xs fr rt (wrap64 (v+1))/\LK F [] w w'/\VisK (λe=>e=gt) w w':=by
 have j:=a.ab (wrap64 (v+1));have i:=a.b4 3 (.int .i64 (wrap64 (v+1)));obtain ⟨ga,A,cap,tk,a⟩:=a;obtain ⟨g,r,rfl,c⟩:=a.rd.ex (zj (b.lt a.rd.len));have m:=a.rd.c1;have q:=a.rd.c3;have t:=a.rd.a.frozen 3;have x:=a.rd.a.lt;have u:=c.lt;have z:gt≠g:=Bk.ne a.rd.a c dC;have y:(k:Int) < n:=zj (b.lt a.rd.len)
 obtain ⟨_,_,s,_⟩:=a.rd.at b;have d:=(VisK.E a.rd.a (wrap64 (v+1)));clear a b c;go_enter func256,ntmps256;go_wp2_with fail;go_ret;exact ⟨rfl,j,i,d⟩
def aPe {d e:Nat} {A i j} (k:(d::e::(A++(i++j))).Nodup):d≠e/\(∀a,a∈A->a∉ [d,e])/\(∀a,a∈i->a∉ [d,e])/\∀a,a∈j->a∉ [d,e]:=by
 rw [zDe,zDe] at k;obtain ⟨c,g,_⟩:=k;simp only [zDf,zCp,not_or] at c g;refine ⟨c.1,λa b f=>?_,λa b f=>?_,λa b f=>?_⟩<;> simp only [zDf,zDh,or_false] at f <;> rcases f with rfl | rfl;exact c.2.1 b;exact g.1 b;exact c.2.2.1 b;exact g.2.1 b;exact c.2.2.2 b;exact g.2.2 b
def TurnP (F:Nat->Prop) (gt n b c:Nat) (xs:List Value) (fr:List Nat) (rt v:Int) (d:LT) (w w':World):Prop:=∃a,TS w' F gt n a fr rt v/\d.In w' a/\ButL [b,c] xs a/\LK F [] w w'/\KT gt w w'
def TurnP.from {F gt n a b xs fr rt v} {c:LT} {w0 w w'} (d:TurnP F gt n a b xs fr rt v c w w') (k0:LK F [] w0 w) (k:KT gt w0 w):TurnP F gt n a b xs fr rt v c w0 w':=by
 obtain ⟨l,e,f,g,i,j⟩:=d;exact ⟨l,e,f,g,k0.trans i,k.trans j⟩
def TurnP.below {F gt n a b xs fr rt v} {c:LT} {w w1 w'} (d:TurnP F gt n a b xs fr rt v c w w1) (k0:Below w1.heap.size w1 w'):TurnP F gt n a b xs fr rt v c w w':=by
 obtain ⟨k,e,f,g,i,j⟩:=d;exact ⟨k,e.below k0,f.below k0,g,i.trans (LK.below k0),j.trans (KT.below k0)⟩
def xD {F gt n k kl xs fr rt v} {a b c:LT} {w} (d:TS w F gt n xs fr rt v) (m:Nd xs k kl c.num) (q:Nd xs kl a.num b.num) (X:a.In w xs) (Y:b.In w xs) (Z:c.In w xs) (av:(k::kl::(a.nums++(b.nums++c.nums))).Nodup) (aN:a.L) (aO:b.L) (aP:c.L):
 Calls prog 258 #[gt,(k:Int)] w λg w'=>g=.returned (.int .i64 kl)/\TurnP F gt n k kl xs fr rt v (.nd kl a (.nd k b c)) w w':=by
 obtain ⟨ar,aJ,aL,aE,aG,m⟩:=m;obtain ⟨au,aK,aM,aF,aH,q⟩:=q;obtain ⟨ga,A,cap,tk,d⟩:=d;obtain ⟨f,b0,rfl,i⟩:=d.rd.ex (zj (m.lt d.rd.len));obtain ⟨z,E,T,U⟩:=aPe av;have Q:=d.rd.c1;have ax:=d.rd.a.lt;have aw:=i.lt;have aA:gt≠f:=Bk.ne d.rd.a i dC;have b2:(k:Int) < n:=zj (m.lt d.rd.len)
 have b3:(kl:Int) < n:=zj (q.lt d.rd.len)
 obtain ⟨aR,ai,_⟩:=d.rd.at m;obtain ⟨aj,ak,_⟩:=d.rd.at q;have aq:=λaB=>i.frozen aB;obtain ⟨an,s⟩:=eqx a.num;obtain ⟨e,H⟩:=eqx b.num;obtain ⟨S,y⟩:=eqx c.num;have a8:=(d.put (k*8) (.int .i64 e)).put (kl*8+1) (.int .i64 k);have af:LK F [] w ((w.setCell ⟨f,k*8,none⟩ (.int .i64 e)).setCell ⟨f,kl*8+1,none⟩ (.int .i64 k)):=(LK.set i dC (OwnF.at d.own) _).trans (LK.set (i.set (k*8) _) dC (OwnF.at d.own) _);have ay:At8 ((xs.set (k*8) (.int .i64 e)).set (kl*8+1) (.int .i64 k)) k (ndL e S ar aJ aL aE aG):=by rw [<-y];exact (m.set (j:=0) oM (.int .i64 e)).ac z (j:=1) oM _
 have az:At8 ((xs.set (k*8) (.int .i64 e)).set (kl*8+1) (.int .i64 k)) kl (ndL an k au aK aM aF aH):=by rw [<-s];exact (q.ac (j:=0) (λg=>z g.symm) oM (.int .i64 e)).set (j:=1) oM (.int .i64 k)
 have x:ButL [k,kl] xs ((xs.set (k*8) (.int .i64 e)).set (kl*8+1) (.int .i64 k)):=((But8.set k xs (j:=0) oM _).l zs).trans ((But8.set kl _ (j:=1) oM _).l zs);rw [H] at ak;rw [s] at aj;rw [y] at ai;have P:=(show KT gt w ((w.setCell ⟨f,k*8,none⟩ (.int .i64 e)).setCell ⟨f,kl*8+1,none⟩ (.int .i64 k)) from KT.keep (ka (F:=λb=>b=f) (ka (F:=λb=>b=f) (ke _ _) (p:=⟨f,k*8,none⟩) (.inl rfl) _) (p:=⟨f,kl*8+1,none⟩) (.inl rfl) _) i);have O:=(show TS _ F gt n _ fr rt v from ⟨ga,_,cap,tk,a8⟩);clear d m q a8 i;go_enter func258,ntmps258;go_wp2_with fail
 go_region
 obtain ⟨aT,W⟩:=eqx (((w.setCell ⟨f,k*8,none⟩ (.int .i64 e)).setCell ⟨f,kl*8+1,none⟩ (.int .i64 k)).drew);have V:=O.below (bR.drew);have ag:=af.trans (LK.below (F:=F) (bl:= []) (bR.drew));have ac:=P.trans (KT.below (gt:=gt) (bR.drew));rw [W] at V ag ac⊢;clear P W Q aR ai aj ak aq aA ax aw O af;go_wp2_with fail;obtain ⟨aU,b1,aV,aW,b8,M⟩:=Y.R;obtain ⟨aX,Q,aY,aZ,b9,N⟩:=Z.R;obtain ⟨a0,a1,a5,a6,b7,L⟩:=X.R;have C:=x _ _ (T _ b.num_mem) M;have D:=x _ _ (U _ c.num_mem) N;have B:=x _ _ (E _ a.num_mem) L;rw [H] at C;rw [y] at D;rw [s] at B;obtain ⟨ba,bb⟩:=aN;obtain ⟨bc,bd⟩:=aO;obtain ⟨be,bf⟩:=aP;have b4:=a.on_le;have b5:=b.on_le;have b6:=c.on_le;refine (kG V ay C D oM oM oM oM oM oM).mono ?_;rintro g bg ⟨rfl,aS,aQ,a9,I,aD,aI⟩;have al:=I _ _ (λg=>E _ a.num_mem (by rw [s,g];simp)) B;have aC:=I _ _ (λg=>z g.symm) az;clear M N L C D B;go_wp2_with fail;refine (kG aQ aC al (show At8 aS k (xA e S (max b.ht c.ht+1) (b.len+c.len) (b.on+c.on) b.len b.on none) from a9) oM oM oM oM oM oM).mono ?_;rintro g K ⟨rfl,u,ah,aa,J,ad,ae⟩;have r:ButL [k,kl] xs u:=x.trans ((I.l zs).trans (J.l zs));have t:LK F [] w K:=ag.trans (aD.trans ad);have ab:=J _ _ z a9;have a7:(LT.nd kl a (.nd k b c)).In K u:=by refine ⟨?_,X.but r t E zs,?_,Y.but r t T zs,Z.but r t U zs⟩;have ao:=LT.len_nd k b c;have ap:=LT.on_nd k b c;show At8 u kl (ndL (a.num:Int) (k:Int) ((max a.ht (max b.ht c.ht+1)+1:Nat):Int) ((a.len+(LT.nd k b c).len:Nat):Int) ((a.on+(LT.nd k b c).on:Nat):Int) (a.len:Int) (a.on:Int));rw [ao,ap,s];exact aa;show At8 u k (ndL (b.num:Int) (c.num:Int) ((max b.ht c.ht+1:Nat):Int) ((b.len+c.len:Nat):Int) ((b.on+c.on:Nat):Int) (b.len:Int) (b.on:Int));rw [H,y];exact ab
 have am:=(show TurnP F gt n k kl xs fr rt v (.nd kl a (.nd k b c)) w K from ⟨u,ah,a7,r,t,ac.trans (aI.trans ae)⟩);clear ae ah aa J ad r t ab a7;go_wp2_with fail;go_ret;exact ⟨rfl,am⟩
def xE {F gt n k kl xs fr rt v} {a b c:LT} {w} (d:TS w F gt n xs fr rt v) (m:Nd xs k a.num kl) (q:Nd xs kl b.num c.num) (X:a.In w xs) (Y:b.In w xs) (Z:c.In w xs) (av:(k::kl::(a.nums++(b.nums++c.nums))).Nodup) (aN:a.L) (aO:b.L) (aP:c.L):
 Calls prog 257 #[gt,(k:Int)] w λg w'=>g=.returned (.int .i64 kl)/\TurnP F gt n k kl xs fr rt v (.nd kl (.nd k a b) c) w w':=by
 obtain ⟨ar,aJ,aL,aE,aG,m⟩:=m;obtain ⟨au,aK,aM,aF,aH,q⟩:=q;obtain ⟨ga,A,cap,tk,d⟩:=d;obtain ⟨f,b0,rfl,i⟩:=d.rd.ex (zj (m.lt d.rd.len));obtain ⟨z,T,U,E⟩:=aPe av;have S:=d.rd.c1;have ax:=d.rd.a.lt;have aw:=i.lt;have aA:gt≠f:=Bk.ne d.rd.a i dC;have b2:(k:Int) < n:=zj (m.lt d.rd.len)
 have b3:(kl:Int) < n:=zj (q.lt d.rd.len)
 obtain ⟨ai,aR,_⟩:=d.rd.at m;obtain ⟨aj,ak,_⟩:=d.rd.at q;have aq:=λaB=>i.frozen aB;obtain ⟨Q,x⟩:=eqx a.num;obtain ⟨e,H⟩:=eqx b.num;obtain ⟨an,s⟩:=eqx c.num;have a8:=(d.put (k*8+1) (.int .i64 e)).put (kl*8) (.int .i64 k);have af:LK F [] w ((w.setCell ⟨f,k*8+1,none⟩ (.int .i64 e)).setCell ⟨f,kl*8,none⟩ (.int .i64 k)):=(LK.set i dC (OwnF.at d.own) _).trans (LK.set (i.set (k*8+1) _) dC (OwnF.at d.own) _);have ay:At8 ((xs.set (k*8+1) (.int .i64 e)).set (kl*8) (.int .i64 k)) k (ndL Q e ar aJ aL aE aG):=by rw [<-x];exact (m.set (j:=1) oM (.int .i64 e)).ac z (j:=0) oM _
 have az:At8 ((xs.set (k*8+1) (.int .i64 e)).set (kl*8) (.int .i64 k)) kl (ndL k an au aK aM aF aH):=by rw [<-s];exact (q.ac (j:=1) (λg=>z g.symm) oM (.int .i64 e)).set (j:=0) oM (.int .i64 k)
 have y:ButL [k,kl] xs ((xs.set (k*8+1) (.int .i64 e)).set (kl*8) (.int .i64 k)):=((But8.set k xs (j:=1) oM _).l zs).trans ((But8.set kl _ (j:=0) oM _).l zs);rw [H] at aj;rw [s] at ak;rw [x] at ai;have P:=(show KT gt w ((w.setCell ⟨f,k*8+1,none⟩ (.int .i64 e)).setCell ⟨f,kl*8,none⟩ (.int .i64 k)) from KT.keep (ka (F:=λb=>b=f) (ka (F:=λb=>b=f) (ke _ _) (p:=⟨f,k*8+1,none⟩) (.inl rfl) _) (p:=⟨f,kl*8,none⟩) (.inl rfl) _) i);have O:=(show TS _ F gt n _ fr rt v from ⟨ga,_,cap,tk,a8⟩);clear d m q a8 i;go_enter func257,ntmps257;go_wp2_with fail
 go_region
 obtain ⟨aT,W⟩:=eqx (((w.setCell ⟨f,k*8+1,none⟩ (.int .i64 e)).setCell ⟨f,kl*8,none⟩ (.int .i64 k)).drew);have V:=O.below (bR.drew);have ag:=af.trans (LK.below (F:=F) (bl:= []) (bR.drew));have ac:=P.trans (KT.below (gt:=gt) (bR.drew));rw [W] at V ag ac⊢;clear P W S ai aR aj ak aq aA ax aw O af;go_wp2_with fail;obtain ⟨aU,b1,aV,aW,b8,M⟩:=Y.R;obtain ⟨aX,S,aY,aZ,b9,N⟩:=Z.R;obtain ⟨a0,a1,a5,a6,b7,L⟩:=X.R;have C:=y _ _ (U _ b.num_mem) M;have D:=y _ _ (E _ c.num_mem) N;have B:=y _ _ (T _ a.num_mem) L;rw [H] at C;rw [s] at D;rw [x] at B;obtain ⟨ba,bb⟩:=aN;obtain ⟨bc,bd⟩:=aO;obtain ⟨be,bf⟩:=aP;have b4:=a.on_le;have b5:=b.on_le;have b6:=c.on_le;refine (kG V ay B C oM oM oM oM oM oM).mono ?_;rintro g bg ⟨rfl,aS,aQ,a9,I,aD,aI⟩;have al:=I _ _ (λg=>E _ c.num_mem (by rw [s,g];simp)) D;have aC:=I _ _ (λg=>z g.symm) az;clear M N L C D B;go_wp2_with fail;refine (kG aQ aC (show At8 aS k (xA Q e (max a.ht b.ht+1) (a.len+b.len) (a.on+b.on) a.len a.on none) from a9) al oM oM oM oM oM oM).mono ?_;rintro g K ⟨rfl,u,ah,aa,J,ad,ae⟩;have r:ButL [k,kl] xs u:=y.trans ((I.l zs).trans (J.l zs));have t:LK F [] w K:=ag.trans (aD.trans ad);have ab:=J _ _ z a9;have a7:(LT.nd kl (.nd k a b) c).In K u:=by refine ⟨?_,⟨?_,X.but r t T zs,Y.but r t U zs⟩,Z.but r t E zs⟩;have ao:=LT.len_nd k a b;have ap:=LT.on_nd k a b;show At8 u kl (ndL (k:Int) (c.num:Int) ((max (max a.ht b.ht+1) c.ht+1:Nat):Int) (((LT.nd k a b).len+c.len:Nat):Int) (((LT.nd k a b).on+c.on:Nat):Int) ((LT.nd k a b).len:Int) ((LT.nd k a b).on:Int));rw [ao,ap,s];exact aa;show At8 u k (ndL (a.num:Int) (b.num:Int) ((max a.ht b.ht+1:Nat):Int) ((a.len+b.len:Nat):Int) ((a.on+b.on:Nat):Int) (a.len:Int) (a.on:Int));rw [x,H];exact ab
 have am:=(show TurnP F gt n k kl xs fr rt v (.nd kl (.nd k a b) c) w K from ⟨u,ah,a7,r,t,ac.trans (aI.trans ae)⟩);clear ae ah aa J ad r t ab a7;go_wp2_with fail;go_ret;exact ⟨rfl,am⟩
end Go.Proofs.YtlghmcogeipojaaGreatDoor
