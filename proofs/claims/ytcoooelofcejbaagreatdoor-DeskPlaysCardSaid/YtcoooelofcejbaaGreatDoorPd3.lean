/- Lemmas of the walk. Conditions: each its own. -/
import Derived.Test.YtcoooelofcejbaaGreatDoorPd2
import Derived.Test.YtcoooelofcejbaaGreatDoorProg
import Derived.Test.YtcoooelofcejbaaGreatDoorShs
import Derived.Test.YtcoooelofcejbaaGreatDoorShl
set_option linter.all false
set_option maxRecDepth 100000
set_option maxHeartbeats 4000000
open Go.Proofs.Tryz
namespace Go.Proofs.YtcoooelofcejbaaGreatDoor
section
def cV:List UInt8->List UInt8×List UInt8×Bool
 | []=>([], [],false)
 | a::l=>if a=32 then ([],l,true) else (a::(cV l).1,(cV l).2.1,(cV l).2.2)
def aKz (a:List UInt8):Lib.cut a [32]=cV a:=by
 induction a with
 | nil=>rfl
 | cons e a d=>
   unfold Lib.cut at d⊢;rw [Lib.index_one] at d⊢;unfold Lib.indexByte cV;by_cases c:e=32
   · subst c;simp
   · have i:(e==32)=false:=(by simpa using c);rw [i,zBw c,<-d];have m:=Lib.indexByte_ge a 32;by_cases g:Lib.indexByte a 32=-1
     · simp [g]
     · have l:0<=Lib.indexByte a 32:=oM;have j:(Lib.indexByte a 32==-1)=false:=(by simpa using g);obtain ⟨b,k⟩:∃b:Nat,Lib.indexByte a 32=b:=⟨(Lib.indexByte a 32).toNat,by omega⟩;rw [j,k];have f:((b:Int)+1).toNat=b+1:=oM;simp only [Bool.false_eq_true,if_false,zCg,List.length_nil,f];rw [zBx oM,zBx oM];simp [f]
def rK (a:List UInt8):(cV a).1.length<=a.length/\(cV a).2.1.length<=a.length:=by
 induction a with
 | nil=>exact ⟨zAs _,zAs _⟩
 | cons b a c=>
   unfold cV;split
   · simp
   simp only [zCg];omega
def bW:List UInt8->List (List UInt8)
 | []=> [[]]
 | a::l=>if a=10 then []::bW l else match bW l with
   | []=> [[a]]
   | x::r=>(a::x)::r
def lA (a:List UInt8):bW a≠ []:=by
 cases a with
 | nil=>simp [bW]
 | cons b a=>
   unfold bW;split
   · simp
   · split <;> simp
def aAC (a:List UInt8):Lib.splitK [10] 0 (a.count 10) a=bW a:=by
 induction a with
 | nil=>rfl
 | cons d a f=>
   unfold bW;by_cases c:d=10
   · subst c;rw [zBx rfl,List.count_cons_self,<-f];rw [Lib.splitK];simp [Lib.index_one,Lib.indexByte]
   · rw [zBw c,List.count_cons_of_ne (by simpa using c),<-f];have k:(d==10)=false:=(by simpa using c);cases o:a.count 10 with
     | zero=>rfl
     | succ p=>
       have n:=Lib.indexByte_ge a 10;have l:Lib.index (d::a) [10]=if Lib.indexByte a 10=-1 then -1 else Lib.indexByte a 10+1:=(by rw [Lib.index_one,Lib.indexByte,k];simp);by_cases e:Lib.indexByte a 10=-1;exfalso;have:=Lib.count_one 10 a;rw [Lib.count_miss (by rw [Lib.index_one];exact e)] at this;omega
       · obtain ⟨b,m⟩:∃b:Nat,Lib.indexByte a 10=b:=⟨(Lib.indexByte a 10).toNat,by omega⟩;rw [Lib.splitK,Lib.splitK,l,zBw e,Lib.index_one,m];have g:((b:Int)+1==-1)=false:=(by rw [zCb];omega);have i:((b:Int)==-1)=false:=(by rw [zCb];omega);have j:((b:Int)+1).toNat=b+1:=oM;simp [g,i,j]
def aHh (a:List UInt8):Lib.splitB ⟨#[10]⟩ 0 (Lib.countB ⟨a.toArray⟩ ⟨#[10]⟩) ⟨a.toArray⟩=(bW a).map fun c=>(⟨c.toArray⟩:ByteArray):=by
 have b:=Lib.splitB_data ⟨#[10]⟩ 0 (Lib.countB ⟨a.toArray⟩ ⟨#[10]⟩) ⟨a.toArray⟩;have e:Lib.countB ⟨a.toArray⟩ ⟨#[10]⟩=a.count 10:=Lib.count_one 10 a;rw [e] at b⊢;have d:(Lib.splitB ⟨#[10]⟩ 0 (a.count 10) ⟨a.toArray⟩).map (·.data.toList)=bW a:=b.trans (aAC a);rw [<-d,zCh]
 conv=>lhs;rw [<-List.map_id (Lib.splitB _ _ _ _)]
 refine List.map_congr_left fun c _=>?_;rfl
def cQ (a:UInt8):Bool:=decide (48<=a.toNat)&&decide (a.toNat<=57)
def mN (b:List UInt8):Nat:=b.foldl (fun c a=>c*10+(a.toNat - 48)) 0
def jA (a:List UInt8):Option Nat:=if a= []∨6 < a.length∨a.all cQ=false then none else some (mN a)
def aCz (a:List UInt8):∀b,a.all cQ=true->Lib.decFrom b a=some (a.foldl (fun k c=>k*10+(c.toNat - 48)) b):=by
 induction a with
 | nil=>intro b _;rfl
 | cons c a j=>
   intro b e;rw [List.all_cons,zBd] at e;have d:=e.1;unfold cQ at d;rw [zBd] at d;have f:=of_decide_eq_true d.1;have g:=of_decide_eq_true d.2;have i:Lib.digitVal c=some (c.toNat - 48):=(by unfold Lib.digitVal;rw [zBx ⟨f,g⟩]);unfold Lib.decFrom;rw [i];exact j _ e.2
def aII {a:List UInt8} (i:a≠ []) (c:a.all cQ=true):Lib.atoi a=some (mN a:Int):=by
 cases a with
 | nil=>exact absurd rfl i
 | cons b a=>
   have d:cQ b=true:=(by rw [List.all_cons,zBd] at c;exact c.1);unfold cQ at d;rw [zBd] at d;have e:=of_decide_eq_true d.1;have f:(b==45)=false:=(by rw [zCb];rintro rfl;revert e;decide);have g:(b==43)=false:=(by rw [zCb];rintro rfl;revert e;decide);have j:Lib.decNat (b::a)=some (mN (b::a)):=(by unfold Lib.decNat;simp only [List.isEmpty_cons,Bool.false_eq_true,if_false];exact aCz _ 0 c);unfold Lib.atoi;simp only [f,g,j,Bool.false_eq_true,if_false,Option.map_some]
def aFc:∀(b:List UInt8) (c a:Nat),b.all cQ=true->c < 10 ^ a->b.foldl (fun g d=>g*10+(d.toNat - 48)) c < 10 ^(a+b.length)
 | [],c,a,_,f=>f
 | d::b,c,a,hd,f=>by rw [List.all_cons,zBd] at hd;have e:=hd.1;unfold cQ at e;rw [zBd] at e;have i:=of_decide_eq_true e.2;have:=aFc b (c*10+(d.toNat - 48)) (a+1) hd.2 (by rw [Nat.pow_succ];omega);rw [zCq,zCg,show a+(b.length+1)=a+1+b.length by omega];exact this
def oC {a:List UInt8} {e:Nat} (b:jA a=some e):a≠ []/\a.length<=6/\a.all cQ=true/\mN a=e/\e < 1000000:=by
 unfold jA at b;split at b
 · cases b
 · rename_i d
   injection b with b;have i:a≠ []:=fun c=>d (.inl c);have j:a.length<=6:=(by rcases zBe 6 a.length with f | f;exact absurd (.inr (.inl f)) d;exact f);have g:a.all cQ=true:=(by cases c:a.all cQ with | true=>rfl | false=>exact absurd (.inr (.inr c)) d);refine ⟨i,j,g,b,?_⟩;have:=aFc a 0 0 g dC;rw [<-b];refine zAl this ?_;have:10 ^(0+a.length)<=10 ^ 6:=zBp dC oM;simpa using this
def aZ (a:List Int):List UInt8:=if a= [] then [110,111,110,101] else Lib.join (a.map Lib.itoa) [32]
def pB (a:Int):aZ [a]=Lib.itoa a:=by
 unfold aZ;rw [zBw (by simp)];show Lib.join [Lib.itoa a] [32]=_;exact Lib.join_one _ _
def jN (a:Nat):UInt8:= [48,49,50,51,52,53,54,55,56,57,97,98,99,100,101,102].getD a 0
def gT (b:List UInt8):List UInt8:=b.flatMap fun a=> [jN (a.toNat / 16),jN (a.toNat % 16)]
def fM (a:List (Int×Nat)):List UInt8:=a.flatMap cG
def rF (b:Int×Nat) (a:List (Int×Nat)):fM (b::a)=cG b++fM a:=by simp [fM]
def tV (a:Int×Nat) (b:List (Int×Nat)):eD (a::b)=List.replicate a.2 a.1++eD b:=by simp [eD]
def aFs:Nat->List (Int×Nat)->Prop
 | _, []=>True
 | last,x::q=>(iY x.1/\x.1.toNat≠last/\1<=x.2/\x.2 < 18446744073709551616)/\aFs x.1.toNat q
def aFV {d:List UInt8} {b:Nat} {a:Int×Nat} {c:List UInt8} (i:iY a.1) (j:a.2 < 18446744073709551616) (e:d.drop b=cG a++c):oQ d b=some (a.1.toNat,a.2,b+(cG a).length):=by
 have f:=oF (n:=a.1.toNat) (by have:=i.2;omega) (bS a.2++c) b;rw [cG,zCo] at e;rw [<-e] at f;have k:d.drop (b+(bS a.1.toNat).length)=bS a.2++c:=by rw [<-List.drop_drop,e,List.drop_left]
 have g:=oF j c (b+(bS a.1.toNat).length);rw [<-k] at g;rw [vO f g,cG,zAi,Nat.add_assoc]
def aHx (f:List UInt8) (k i:Nat) (l:List UInt8):∀(a:List (Int×Nat)) (c e:Nat) (d:List Int),f.drop c=fM a++l->aFs e a->d.length+(eD a).length<=k->
 ∃x,rgo f k (a.length+i) c e d=rgo f k i (c+(fM a).length) x (d++eD a):=by
 intro a
 induction a with
 | nil=>intro c e d _ _ _;exact ⟨e,by simp [fM,eD]⟩
 | cons b a v=>
   intro c e d j p s;obtain ⟨⟨g,y,z,m⟩,n⟩:=p;rw [rF,zCo] at j;have t:=aFV g m j;rw [tV,zAi,zCn] at s;have o:(b::a).length+i=(a.length+i)+1:=(by simp;omega);rw [o,aCb _ _ _ _ t,zBw (by have:=g.1;have:=g.2;omega),zBw oM];have u:((b.1.toNat:Nat):Int)=b.1:=(by have:=g.1;omega);rw [u];have q:f.drop (c+(cG b).length)=fM a++l:=(by rw [<-List.drop_drop,j,List.drop_left]);obtain ⟨w,r⟩:=v (c+(cG b).length) b.1.toNat (d++List.replicate b.2 b.1) q n (by rw [zAi,zCn];omega);refine ⟨w,?_⟩;rw [r,rF,tV,zAi,zCo,Nat.add_assoc]
def aIB (c:List (Int×Nat)) (l:tJ c) (e:∀a∈c,iY a.1/\a.2 < 18446744073709551616) (f:Nat) (o:∀a,c[0]?=some a->a.1.toNat≠f):aFs f c:=by
 induction c generalizing f with
 | nil=>trivial
 | cons a c s=>
   obtain ⟨g,_,i⟩:=l;refine ⟨⟨(e a (List.mem_cons_self ..)).1,o a rfl,g a (List.mem_cons_self ..),(e a (List.mem_cons_self ..)).2⟩,?_⟩;refine s ⟨fun d b=>g d (List.mem_cons_of_mem _ b),List.pairwise_of_forall (by intros;trivial),fun r j k m n=>i (r+1) j k (by simpa using m) (by simpa using n)⟩ (fun d b=>e d (List.mem_cons_of_mem _ b)) _ ?_;intro d b;have:=i 0 a d rfl (by simpa using b);have p:=(e a (List.mem_cons_self ..)).1;have q:=(e d (List.mem_cons_of_mem _ (zAd b))).1;have:=p.1;have:=q.1;omega
def aEm {c:List Int} (d:∀a∈bB c,iY a.1) (e:c.length < 18446744073709551616):aFs 257 (bB c):=
 aIB _ (zQ c) (fun a b=>⟨d a b,by have:=pK b;omega⟩) 257 fun a b=>by have:=(d a (zAd b)).2;have:=(d a (zAd b)).1;omega
def aAK {a:List Int} (b:a.length < 18446744073709551616):(bB a).length < 18446744073709551616:=by have:=lO a;omega
def aA5 {l:List Int} (k:∀m∈bB l,iY m.1) (e:l.length < 18446744073709551616) (c:Int) (n:(l.length:Int)<=c) (a:List UInt8):
 lV (eL (bB l)++a) c=if a= [] then (l,0) else ([],4):=by
 have g:=oF (aAK e) (fM (bB l)++a) 0;have i:eL (bB l)++a=bS (bB l).length++(fM (bB l)++a):=by simp [eL,fM]
 rw [i,lV,g];simp only [zBi];have j:(bS (bB l).length++(fM (bB l)++a)).drop (bS (bB l).length).length=fM (bB l)++a:=List.drop_left;have d:=nG l;obtain ⟨o,f⟩:=aHx _ c.toNat 0 a (bB l) _ 257 [] j (aEm k e) (by rw [d];simp;omega);rw [zBq] at f;rw [f,d,List.nil_append,rgo];by_cases b:a= []
 · subst b;rw [zBx (by simp),zBx rfl]
 · have:0 < a.length:=List.length_pos_iff.2 b;rw [zBw (by simp;omega),zBw b]
end
section
open Go.RowKit
def aI6 (a:World):(sizeOf 5).run prog a=.ok 1 a:=by kernel_rfl
def rP (b:Nat) {a:Nat} (f:b<=144115188075855871) (e:a < 256):bits .or .u64 ((b:Int)*128) (IntKind.u64.wrap (bits .and .u8 (a:Int) 127))=((b*128+a % 128:Nat):Int):=by
 have c:bits .and .u8 (a:Int) 127=((a % 128:Nat):Int):=by have:=u8_and_nat a 127 e oM;rw [nat_mask7] at this;exact this
 have d:IntKind.u64.wrap ((a % 128:Nat):Int)=((a % 128:Nat):Int):=by rw [IntKind.wrap_u64];omega
 rw [c,d,show ((b:Int)*128)=((b*128:Nat):Int) by push_cast;rfl,u64_or_nat _ _ oM oM,nat_join 7 (b*128) (a % 128) oM oM]
def nV {b:Nat} {c d:Int} {a:Nat×Int×Int} (e:a=(b,c,d)):Ending.returned (.tuple #[.int .u64 (b:Int),.int .i64 c,.int .i64 d])=Ending.returned (.tuple #[uv a.1,iv a.2.1,iv a.2.2]):=by subst e;rfl
def aCd {c:Nat} {f b d e:Int} {a:Nat×Int×Int} (j:f=(c:Int)) (i:d=b) (g:a=(c,b,e)):Ending.returned (.tuple #[.int .u64 f,.int .i64 d,.int .i64 e])=Ending.returned (.tuple #[uv a.1,iv a.2.1,iv a.2.2]):=by subst g;subst j;subst i;rfl
def aJU {r:Option Addr} {g p:Nat} {d:List UInt8} (j:Int) {K:Nat} {B:World} (y:Rd B K 1 r g (d.map bv)) (V:g<=p) (R:p<=maxLen):
 Calls prog 239 #[.slice r g p,.int .i64 j] B fun O X=>O=.returned (.tuple #[uv (eB d j).1,iv (eB d j).2.1,iv (eB d j).2.2])/\B=X:=by
 unfold maxLen at R;have I:d.length=g:=by simpa using y.1
 obtain ⟨o,N⟩:=hqq2 I y;clear I y;by_cases x:j < 0
 · have m:eB d j=(0,j,2):=(by rw [eB,zBx (.inl x)]);have i:=lhd m;clear m;go_enter func239,ntmps239;go_wp2;go_ret3;exact ⟨nV i.out,rfl⟩
 by_cases F:(g:Int) < j
 · have m:eB d j=(0,j,2):=(by rw [eB,zBx (.inr (by rw [o.out];exact F))]);have i:=lhd m;clear m;go_enter func239,ntmps239;go_wp2;go_ret3;exact ⟨nV i.out,rfl⟩
 obtain ⟨a,rfl⟩:=Int.eq_ofNat_of_zero_le (Int.not_lt.1 x);have H:a<=g:=oM;have m:eB d (a:Int)=match eC (d.drop a) true 0 a with | some (A,W)=>(A,(W:Int),0)| none=>(0,(a:Int),4):=by rw [eB,zBw (by rw [o.out];omega)];rfl
 have i:=lhd m;have w:=N.out.cut (k:=a) (cap:=p) H V;have hcut:=vM (P:=prog) 34 5 1 underlying34 aI6 r g p a H;generalize gO r p a 1=A' at w hcut;have L:=lhd w;have a0:decide ((a:Int) < 0)=false:=by simp
 have a1:decide (g < a)=false:=by simp;omega
 clear m x w F;go_enter func239,ntmps239;go_wp2
 go_loop [7,23] (fun A z=>∃c f:Nat,c<=g - a/\z=.int .i64 c/\A=.int .u64 f/\eC (d.drop (a+c)) (c==0) f (a+c)=eC (d.drop a) true 0 a) (fun _ z=>g -(intOf z).toNat)
 case atStart=>exact ⟨0,0,zAp _,rfl,rfl,rfl⟩
 case round=>
  obtain ⟨c,f,a2,rfl,rfl,E⟩:=hrel;have l:=lhd E;clear E;by_cases U:c < g - a
  · obtain ⟨C,a3,a4,rfl,Z,J,Q⟩:=L.out.get U;have q:∃e,d[a+c]?=some e:=⟨d[a+c]'(by have:=o.out;omega),zAa (by have:=o.out;omega)⟩;obtain ⟨e,q⟩:=q;simp only [zBl,zBt,zAf,q,Option.map_some,Option.some.injEq] at J;subst J;unfold bv at Q;have D:d.drop (a+c)=e::d.drop (a+c+1):=(by have T:a+c < d.length:=(by have:=o.out;omega);rw [zAx T];have:d[a+c]=e:=(zAc.1 q).2;rw [this]);have t:e.toNat < 256:=e.toNat_lt;rw [D,lW] at l;clear q D;go_wp2
    · have Y:(e.toNat:Int)=128:=(by assumption);have n:c=0:=(by assumption);go_ret3;refine ⟨nV ?_,rfl⟩;rw [i.out,<-l.out,zBx (by simp;left;omega)]
    · have n:c=0:=(by assumption);have s:((e.toNat:Int)==128)=true∨(144115188075855871:Int) < (f:Int):=(by assumption);go_ret3;refine ⟨nV ?_,rfl⟩;rw [i.out,<-l.out,zBx (by simp at s⊢;omega)]
    · have n:c=0:=(by assumption);have s:¬(e.toNat:Int)=128:=(by assumption);have u:((e.toNat:Int)==128)=false/\(f:Int)<=144115188075855871:=(by assumption);have v:(e.toNat:Int) < 128:=(by assumption);subst n;go_ret3;refine ⟨aCd (rP f oM t) ?_ (b:=((a+0+1:Nat):Int)) ?_,rfl⟩;push_cast;rfl
      · rw [i.out,<-l.out,zBw (by simp;omega),zBx oM]
    have n:c=0:=(by assumption);have s:¬(e.toNat:Int)=128:=(by assumption);have u:((e.toNat:Int)==128)=false/\(f:Int)<=144115188075855871:=(by assumption);have v:(128:Int)<=(e.toNat:Int):=(by assumption);subst n;refine ⟨⟨0+1,f*128+e.toNat % 128,by omega,rfl,jB (rP f oM t),?_⟩,by simp [intOf];omega⟩;rw [<-l.out,zBw (by simp;omega),zBw oM];rfl
    · have n:¬c=0:=(by assumption);have s:(144115188075855871:Int) < (f:Int):=(by assumption);go_ret3;refine ⟨nV ?_,rfl⟩;rw [i.out,<-l.out,zBx (by simp;omega)]
    · have n:¬c=0:=(by assumption);have u:(f:Int)<=144115188075855871:=(by assumption);have v:(e.toNat:Int) < 128:=(by assumption);go_ret3;refine ⟨aCd (rP f oM t) ?_ (b:=((a+c+1:Nat):Int)) ?_,rfl⟩;push_cast;rfl
      · rw [i.out,<-l.out,zBw (by simp;omega),zBx oM]
    · have n:¬c=0:=(by assumption);have u:(f:Int)<=144115188075855871:=(by assumption);have v:(128:Int)<=(e.toNat:Int):=(by assumption);refine ⟨⟨c+1,f*128+e.toNat % 128,by omega,by go_num,jB (rP f oM t),?_⟩,by simp [intOf];omega⟩;rw [<-l.out,zBw (by simp;omega),zBw oM];rfl
  · have G:c=g - a:=oM;have M:=lhd G;clear G;go_wp2;go_ret3;refine ⟨nV ?_,rfl⟩;have S:d.drop (a+c)= []:=List.drop_eq_nil_of_le (by rw [o.out];have:=M.out;omega);rw [i.out,<-l.out,S,eC]
def eR {e:Option Addr} {c b:Nat} {i:List UInt8} {a:Int} {m:Nat} {d:World} {j:Nat} {k g:Int} (n:eB i a=(j,k,g)) (r:Rd d m 1 e c (i.map bv)) (q:c<=b) (o:b<=maxLen):
 Calls prog 239 #[.slice e c b,.int .i64 a] d fun f l=>f=.returned (.tuple #[.int .u64 (j:Int),.int .i64 k,.int .i64 g])/\d=l:=
 (aJU a r q o).mono fun f l ⟨p,s⟩=>⟨by rw [p,n];rfl,s⟩
def aGb {c b a:Nat} (g:c < 256 ^ a) (m:b < 256) (l:a < 4):bits .or .u32 (c:Int) ((b:Int)*2 ^(8*a)% 4294967296)=((c+b*256 ^ a:Nat):Int):=by
 have d:(256:Nat)^ a=2 ^(8*a):=by rw [Nat.pow_mul]
 have e:b*256 ^ a < 4294967296:=by have k:b*256 ^ a<=255*256 ^ a:=Nat.mul_le_mul_right _ oM;have i:256 ^ a<=256 ^ 3:=zBp oM oM;omega
 have j:c < 4294967296:=by have i:256 ^ a<=256 ^ 3:=zBp oM oM;omega
 have f:((b:Int)*2 ^(8*a)% 4294967296)=((b*256 ^ a:Nat):Int):=by
  rw [d] at e⊢;have:(b:Int)*2 ^(8*a)=((b*2 ^(8*a):Nat):Int):=by push_cast;rfl
  rw [this];omega
 rw [f,u32_or_nat _ _ j e,Nat.or_comm,nat_join (8*a) (b*256 ^ a) c (by rw [d];exact Nat.mul_mod_left _ _) (by rw [<-d];exact g),zCt]
def aGR (c:Nat) (b:World):
 Calls prog 135 #[.int .u32 (c:Int)] b fun o n=>∃d,o=.returned d/\n.ownsRow b.heap.size 5 1 d 4 ((rH c).map bv)/\Below b.heap.size b n:=by
 obtain ⟨x,s,u,v,w⟩:=info_parts jV;go_enter func135,ntmps135;go_wp2;go_loopw [0,3,4] (fun y d g wr=>∃a:Nat,a<=4/\g=.int .i64 a/\y=.int .u32 ((c / 256 ^ a:Nat):Int)/\wr.ownsRow b.heap.size 5 1 d a ((aA6 a c).map bv)/\Below b.heap.size b wr) (fun _ _ g _=>4 -(intOf g).toNat)
 case atStart=>exact ⟨0,zAp _,rfl,by simp,World.ownsRow_nil _ _ _ _,Below.refl _ _⟩
 case round=>
  obtain ⟨a,A,rfl,rfl,f,e⟩:=hrel;have j:=e.size;by_cases B:a < 4
  · generalize k:c / 256 ^ a=m;have i:=lhd k;clear k;go_wp2_with (at_builtin;refine bP _ rfl (.tmp 6) (.tmp 9) _ rfl b.heap.size 5 x (.int .u8 0) 1 1 underlying34 s u v w rfl dC u3 a _ rfl f rfl rfl (by simp [Value.oneCell']) (by unfold maxLen;omega) oM j ?_;intro D E l r C z);have q:=bC e f r j;refine ⟨⟨a+1,by omega,by go_num,jB ?_,?_,q⟩,by simp [intOf];omega⟩;rw [Nat.pow_succ,<-Nat.div_div_eq_div_mul,i.out];push_cast;rfl;have t:Value.int .u8 ((m:Int)% 256)=bv (UInt8.ofNat (m % 256)):=(by unfold bv;congr 1;simp [UInt8.toNat_ofNat']);rw [t] at l;rw [aA6,i.out];simpa using l
  · have p:a=4:=oM;subst p;go_wp2;go_ret;exact ⟨u3,rfl,f,e⟩
def aAu (d:Nat) (a:World):
 Calls prog 135 #[.int .u32 (d:Int)] a fun f e=>∃b c,f=.returned (.slice b 4 c)/\Made e a.heap.size 5 1 b 4 c ((rH d).map bv)/\Below a.heap.size a e:=by
 refine (aGR d a).mono fun f e ⟨l,i,k,g⟩=>?_;obtain ⟨b,c,rfl,j⟩:=aR k;exact ⟨b,c,i,j,g⟩
def aAO {b:Nat} {d c:Int} {a:Nat×Int} (f:d=(b:Int)) (e:a=(b,c)):Ending.returned (.tuple #[.int .u32 d,.int .i64 c])=Ending.returned (.tuple #[.int .u32 (a.1:Int),iv a.2]):=by subst e;subst f;rfl
def aKJ {q:Option Addr} {f:Nat} (A:Nat) {b:List UInt8} (e:Int) {w:Nat} {p:World} (n:Rd p w 1 q f (b.map bv)) (E:f<=maxLen):
 Calls prog 166 #[.slice q f A,.int .i64 e] p fun B J=>B=.returned (.tuple #[.int .u32 ((ofB b e).1:Int),iv (ofB b e).2])/\p=J:=by
 unfold maxLen at E;have s:b.length=f:=by simpa using n.1
 obtain ⟨i,y⟩:=hqq2 s n;clear s n;by_cases m:e < 0
 · have d:ofB b e=(0,2):=(by rw [ofB,zBx (.inl m)]);have g:=lhd d;clear d;go_enter func166,ntmps166;go_wp2;go_ret2;exact ⟨aAO rfl g.out,rfl⟩
 by_cases r:(f:Int) < e
 · have d:ofB b e=(0,2):=(by rw [ofB,zBx (.inr (by rw [i.out];exact r))]);have g:=lhd d;clear d;go_enter func166,ntmps166;go_wp2;go_ret2;exact ⟨aAO rfl g.out,rfl⟩
 by_cases G:(f:Int) - e < 4
 · have d:ofB b e=(0,4):=(by rw [ofB,zBw (by rw [i.out];omega),zBx (by rw [i.out];omega)]);have g:=lhd d;clear d;go_enter func166,ntmps166;go_wp2;go_ret2;exact ⟨aAO rfl g.out,rfl⟩
 obtain ⟨c,rfl⟩:=Int.eq_ofNat_of_zero_le (Int.not_lt.1 m);have d:ofB b (c:Int)=(ofN b c 4,0):=by rw [ofB,zBw (by rw [i.out];omega),zBw (by rw [i.out];omega)];rfl
 have g:=lhd d;have L:c+4<=f:=oM;have N:decide ((c:Int) < 0)=false:=by simp
 have O:decide (f < c)=false:=by simp;omega
 have P:decide ((f:Int) -(c:Int) < 4)=false:=by simp;omega
 clear d m r G;go_enter func166,ntmps166;go_wp2
 go_loop [6,23] (fun I o=>∃a:Nat,a<=4/\o=.int .i64 a/\I=.int .u32 (ofN b c a:Int)) (fun _ o=>4 -(intOf o).toNat)
 case atStart=>exact ⟨0,zAp _,rfl,rfl⟩
 case round=>
  obtain ⟨a,Q,rfl,rfl⟩:=hrel;by_cases F:a < 4
  · obtain ⟨K,R,S,rfl,M,v,D⟩:=y.out.get (k:=c+a) oM;have j:∃l,b[c+a]?=some l:=⟨b[c+a]'(by have:=i.out;omega),zAa (by have:=i.out;omega)⟩;obtain ⟨l,j⟩:=j;simp only [zAf,j,Option.map_some,Option.some.injEq] at v;subst v;unfold bv at D;have u:ofN b c (a+1)=ofN b c a+l.toNat*256 ^ a:=(by rw [ofN,j];rfl);have t:=aKg b c a;obtain ⟨z,x⟩:=hqq2 u t;generalize ofN b c a=acc at*
    have H:l.toNat < 256:=l.toNat_lt;clear j u t;go_wp2;refine ⟨⟨a+1,by omega,by go_num,jB ?_⟩,by simp [intOf];omega⟩;rw [z.out];exact aGb x.out H F
  · have C:a=4:=oM;subst C;go_wp2;go_ret2;exact ⟨aAO rfl g.out,rfl⟩
def aKT {A:Option Addr} {m:Nat} (a:Nat) {l:List UInt8} {at_:Int} {B:Nat} {w:World} {n:Nat} {k:Int} (d:ofB l at_=(n,k)) (g:Rd w B 1 A m (l.map bv)) (e:m<=maxLen):
 Calls prog 166 #[.slice A m a,.int .i64 at_] w fun b c=>b=.returned (.tuple #[.int .u32 (n:Int),.int .i64 k])/\w=c:=
 (aKJ a at_ g e).mono fun b c ⟨f,i⟩=>⟨by rw [f,d];rfl,i⟩
end
section
def aAL:(prog.info? 3).map (fun a=>(a.zero,a.size,a.bytes))=some (some (.int .i64 0),1,8):=by kernel_rfl
def aFL {b:List Int} {a:Int×Nat} (c:a∈bB b):a.1∈b:=by
 have e:=(zQ b).1 a c;have d:a.1∈eD (bB b):=List.mem_flatMap.2 ⟨a,c,List.mem_replicate.2 ⟨by omega,rfl⟩⟩;rwa [nG] at d
def aBT {b:List Nat} (c:∀a∈b,a < 257):∀a∈bB (iM b),iY a.1:=by
 intro a d;obtain ⟨f,e,g⟩:=zAy.1 (aFL d);have:=c f e;unfold iY;omega
def nR (a:List Nat):(iM a).length=a.length:=by simp [iM]
def aD6 {a:List Nat} (b:∀c∈a,c < 257):qP (iM a)=some (fG a):=by
 unfold qP;rw [zBx (aBT b)];rfl
def lX (a:List Nat):(fG a).length<=11+22*a.length:=by
 unfold fG;have d:=tT (bB (iM a));have c:=lO (iM a);have e:=bZ (bB (iM a)).length;rw [nR] at c;have b:eL (bB (iM a))=bS (bB (iM a)).length++(bB (iM a)).flatMap cG:=by simp [eL]
 rw [b,zAi];omega
def aAJ (c:List Nat) (b a:Nat):List UInt8:=(List.range a).flatMap fun a=>bS (c.idxOf (a*b))
def sU (c:List Nat) (b a:Nat):aAJ c b (a+1)=aAJ c b a++bS (c.idxOf (a*b)):=by
 unfold aAJ;rw [List.range_succ,List.flatMap_append];simp
def mR (c:List Nat) (b a:Nat):(aAJ c b a).length<=11*a:=by
 induction a with
 | zero=>simp [aAJ]
 | succ a d=>
   rw [sU,zAi];have:=bZ (c.idxOf (a*b));omega
def qJ (c:List Nat) (a b:Nat):uI c a b=aAJ c a (b / a+1):=rfl
def aJa (c:List Nat) (b a:Nat):a<=(aAJ c b a).length:=by
 induction a with
 | zero=>simp
 | succ a d=>
   rw [sU,zAi];have:=aIk (c.idxOf (a*b));omega
def aKk {c a b:Nat} (g:1<=a) (f:c<=b / a+1) (d:¬c*a<=b):c=b / a+1:=by
 have e:b / a < c:=(Nat.div_lt_iff_lt_mul oM).2 oM;omega
def aKh {c a b:Nat} (e:1<=a) (d:c*a<=b):c+1<=b / a+1:=by
 have:=(Nat.le_div_iff_mul_le oM).2 d;omega
end
section
open Go.RowKit
def aFE {a:Int} (b:World) (d:iY a):Calls prog 157 #[.int .i64 a] b fun c e=>c=.returned (.bool true)/\b=e:=by
 obtain ⟨f,g⟩:=d;go_enter func157,ntmps157;go_wp2;go_ret;exact ⟨qO (by simp <;> omega),rfl⟩
def aHd {a:Int} (b:World) (d:¬iY a):Calls prog 157 #[.int .i64 a] b fun c g=>c=.returned (.bool false)/\b=g:=by
 have e:a < 0∨(0<=a/\257<=a):=by unfold iY at d;omega
 rcases e with f |⟨f,i⟩
 · go_enter func157,ntmps157;go_wp2;go_ret;exact ⟨qO (by simp <;> omega),rfl⟩
 · go_enter func157,ntmps157;go_wp2;go_ret;exact ⟨qO (by simp <;> omega),rfl⟩
def aJT (f g:World) (e:Option (List UInt8)) (d:Ending):Prop:=
 (∃a b c,e=some a/\d=.returned (.tuple #[.slice b a.length c,.int .i64 0])/\Made g f.heap.size 5 1 b a.length c (a.map bv))∨
 (e=none/\d=.returned (.tuple #[.slice none 0 0,.int .i64 1]))
def aEy (Q:Option Addr) (z aw:Nat) {B:Nat} (i:List Int) {w:World} (K:Rd w B 1 Q z (i.map iv)) (aE:B<=w.heap.size) (b9:z<=1000000):
 Calls prog 131 #[.slice Q z aw] w fun n ad=>aJT w ad (qP i) n/\Below w.heap.size w ad:=by
 obtain ⟨aY,aI,aV,aW,aX⟩:=info_parts jV;have aL:i.length=z:=by simpa using K.1
 obtain ⟨b,r⟩:=eqx (bB i);obtain ⟨c,a4⟩:=eqx b.length;have ba:c<=1000000:=by have:=lO i;rw [r] at this;omega
 have V:∀d∈b,d.2<=1000000:=fun d e=>by have:=pK (l:=i) (x:=d) (by rw [r];exact e);omega
 have ai:=lhd V;have a7:qP i=if ∀d∈b,iY d.1 then some (eL b) else none:=by unfold qP;rw [r]
 obtain ⟨R,av,m,ar⟩:=hqq4 a7 r a4 K;have b3:=Below.refl w.heap.size w;clear K aL r a4 a7 V;go_enter func131,ntmps131;go_wp2_with fail;refine (aIO _ c av.out m.out ar.out aE oM).mono ?_;rintro n w1 ⟨A,D,rfl,Z,G⟩;have aQ:=G.size;have ap:=lhd Z.own;clear Z;obtain ⟨k0,I⟩:=eqx ((bS c).length);have b7:k0<=11:=by rw [<-I];exact bZ c
 have al:=lhd I;clear I;go_wp2_with fail;refine (xT _ (pR c) al.out (Rd.made _ _ 1 1 _ rfl) nL (by simp;omega) oM).mono ?_;rintro n O ⟨ag,ay,rfl,a0,u⟩;have T:=(G.alloc aQ _).trans (u.mono (by simp;omega));have bd:=T.size;have bc:w1.heap.size < O.heap.size:=by have:=u.size;simp at this;omega
 have aN:O.ownsRow w.heap.size 5 1 (.slice ag k0 ay) k0 ((bS c).map bv):=cD a0.own (by simp;omega);have g:O.ownsRow w.heap.size 236 2 (.slice A c D) c (bU b):=aM (ap.out.alloc _) u;clear a0 u G;go_wp2_with fail;go_loopw [5,17] (fun b0 M wr=>∃a k:Nat,a<=c/\M=.int .i64 a/\wr.ownsRow w.heap.size 5 1 b0 k ((bS c++(b.take a).flatMap cG).map bv)/\wr.ownsRow w.heap.size 236 2 (.slice A c D) c (bU b)/\Below w.heap.size w wr/\∀d∈b.take a,iY d.1) (fun _ M _=>c -(intOf M).toNat)
 case atStart=>exact ⟨0,k0,zAp _,rfl,by simpa using aN,g,T,by simp⟩
 case round=>
  obtain ⟨a,k,b6,rfl,q,g,t,a6⟩:=hrel;have C:=lhd a6;have aa:=t.size;have bb:k<=22000011:=by have F:=q.1;have S:=tT (b.take a);have aC:=bZ c;rw [zAj] at S;simp only [zBc,zAi] at F;omega
  clear a6;by_cases Y:a < c
  · obtain ⟨d,e⟩:∃d,b[a]?=some d:=⟨b[a]'(by have:=m.out;omega),zAa (by have:=m.out;omega)⟩;obtain ⟨f,aD,b5⟩:∃f,A=some ⟨f,0,none⟩/\f < wr.heap.size:=(by obtain ⟨f,b2,aS,_,Y⟩:=g.form oM;injection aS with F S aC;exact ⟨f,F,Y⟩);subst aD;have aA:wr.cell? ⟨f,a*2,none⟩=some (.int .i64 d.1):=(g.cellAt (a*2) oM).trans ((iO b a 0 d e oM).trans rfl);have aB:wr.cell? ⟨f,a*2+1,none⟩=some (.int .i64 (d.2:Int)):=(g.cellAt (a*2+1) oM).trans ((iO b a 1 d e oM).trans rfl);have a5:=yF e;have aT:=ai.out d (zAd e);have X:∀j∈b.take (a+1),j∈b.take a∨j=d:=(by intro j ac;have aJ:a < b.length:=(zAc.1 e).1;rw [List.take_succ_eq_append_getElem aJ,(zAc.1 e).2] at ac;simpa using ac);have a3:=zAd e;obtain ⟨aZ,j⟩:=d;simp only at aA aB aT;obtain ⟨ao,ak,an⟩:=hqq3 a5 X a3;clear a5 e X a3;by_cases o:iY aZ
    · obtain ⟨s,rfl⟩:=Int.eq_ofNat_of_zero_le o.1;have be:(s:Int) < 257:=o.2;have p:=lhd o;clear o;obtain ⟨N,J⟩:=eqx ((cG ((s:Int),j)).length);have b8:N<=22:=(by rw [<-J];exact tP _);have am:=lhd J;have W:dE [s,j]=cG ((s:Int),j):=(by simp [dE,cG]);have aj:=lhd W;clear J W;go_wp2_with (go_at_call 157;refine (aFE _ p.out).mono ?_;rintro n b1 ⟨rfl,rfl⟩);refine (xT _ aj.out am.out (Rd.made' _ _ 1 2 _ _ rfl (by simp)) nL (by simp;omega) oM).mono ?_;rintro n P ⟨ah,az,rfl,a2,v⟩;have U:=((t.alloc aa _).alloc (by simp;omega) _).trans (v.mono (by simp;omega));have a9:=U.size;have y:P.ownsRow w.heap.size 5 1 u5 k ((bS c++(b.take a).flatMap cG).map bv):=aM ((q.alloc _).alloc _) v;have L:P.ownsRow w.heap.size 236 2 (.slice (some ⟨f,0,none⟩) c D) c (bU b):=aM ((g.alloc _).alloc _) v;have au:=lhd a2.rd;have aq:=lhd (lS (cG ((s:Int),j)));clear a2 v q g;go_wp2_with (at_builtin;refine bK _ rfl (.tmp 25) (.tmp 33) _ rfl w.heap.size 5 aY (.int .u8 0) 1 1 underlying34 aI aV aW aX rfl dC u5 k _ rfl y P.heap.size ah N az _ rfl au.out aq.out (by unfold maxLen;omega) oM a9 ?_;intro bf bg aO H aH);have aF:=bC U y H a9;have aP:=L.kept H (aDR L y dC);clear H aH L y;go_roundw
      case rel=>refine ⟨a+1,k+N,by omega,by go_num,?_,aP,aF,?_⟩;rw [ao.out,<-zCo,zAz];exact aO;intro ae aU;rcases ak.out ae aU with E | E;exact C.out ae E;rw [E];exact p.out
      case measure=>simp [intOf];omega
    · have p:=lhd o;clear o;go_wp2_with (go_at_call 157;refine (aHd _ p.out).mono ?_;rintro n b1 ⟨rfl,rfl⟩);go_ret2;refine ⟨.inr ⟨?_,rfl⟩,t.alloc aa _⟩;rw [R.out,zBw];intro aG;exact p.out (aG _ an.out)
  · have aK:a=c:=oM;have b4:c<=a:=oM;have ab:b.take a=b:=zAg (by have:=m.out;omega);rw [ab] at q C;clear aK ab g;obtain ⟨af,ax,rfl,a1⟩:=aR q;go_wp2;go_ret2;have a8:(eL b).length=k:=(by have:=a1.len;rw [zBc] at this;rw [<-this,eL,m.out]);refine ⟨.inl ⟨eL b,af,ax,?_,?_,?_⟩,t⟩
    · rw [R.out,zBx C.out]
    rw [a8];rfl;rw [a8,eL,m.out];exact a1
def aBH (e f:World) (a:List Int×Int) (d:Ending):Prop:=
 ∃b c,d=.returned (.tuple #[.slice b a.1.length c,.int .i64 a.2])/\Made f e.heap.size 3 1 b a.1.length c (a.1.map iv)
def fZ {d e:World} {b:List Int×Int} {a:Int} (c:([],a)=b):aBH d e b (.returned (.tuple #[.slice none 0 0,.int .i64 a])):=by
 subst c;exact ⟨none,0,rfl,⟨World.ownsRow_nil _ _ _ _,Rd.nil _ _ _ _,zAs _,zAp _⟩⟩
def uG {a0:Option Addr} {s S:Nat} {n:List UInt8} {Q:Int} {j:World} {D:TypeInfo} (az:prog.info? 3=some D) (aE:D.zero=some (.int .i64 0)) (aF:D.size=1) (aG:D.bytes=8) (A:Hid (n.length=s)) (a4:Hid (Rd j j.heap.size 1 a0 s (n.map bv))) (ap:Below j.heap.size j j) (i:s<=S) (g:S<=maxLen) {t:List Int×Int} {R F:Nat} (ar:F<=s) (aj:Hid (eB n 0=(R,(F:Int),0))) (am:Hid (R < 18446744073709551616)) {e:Nat} (ak:Hid (rgo n e R F 257 []=t)) (aU:e<=1099511627776) (a8:Q=(e:Int)∨(Q < 0/\e<=0)):
 Calls prog 169 #[.slice a0 s S,.int .i64 Q] j fun a ah=>aBH j ah t a/\Below j.heap.size j ah:=by
 have a2:=lhd a8;clear a8;go_enter func169,ntmps169;go_wp2_with (go_at_call 239;refine (eR aj.out a4.out i g).mono ?_;rintro a m ⟨rfl,rfl⟩);go_loopw [6,7,9,10] (fun Z aI Y aJ wr=>∃(q o r:Nat) (l:List Int),Z=.int .u64 (q:Int)/\aI=.int .i64 (o:Int)/\aJ=.int .u64 (r:Int)/\wr.ownsRow j.heap.size 3 1 Y l.length (l.map iv)/\l.length<=e/\o<=s/\q < 18446744073709551616/\rgo n e q o r l=t/\Below j.heap.size j wr) (fun Z _ _ _ _=>(intOf Z).toNat)
 case atStart=>exact ⟨R,F,257, [],rfl,rfl,rfl,World.ownsRow_nil _ _ _ _,zAp _,ar,am.out,ak.out,ap⟩
 case round=>
  obtain ⟨q,o,r,l,rfl,rfl,rfl,B,au,aq,ac,a9,p⟩:=hrel;obtain ⟨x,al⟩:=hqq2 a9 ac;have aW:=p.size;have ad:=a4.out.below p;have k:=lhd ad;clear a9 ac ad;rcases q with _ | q
  · have aP:((0:Nat):Int)=0:=rfl;by_cases K:o=s
    · have c:(l,0)=t:=(by rw [<-x.out,rgo,zBx (by rw [A.out];exact K)]);have f:=lhd c;have W:((o:Int)==(s:Int))=true:=(by rw [zCr];omega);obtain ⟨a1,a7,rfl,V⟩:=aR B;clear K c B;go_wp2;go_ret2;refine ⟨?_,p⟩;rw [<-f.out];exact ⟨a1,a7,rfl,V⟩
    · have c:([],4)=t:=(by rw [<-x.out,rgo,zBw (by rw [A.out];exact K)]);have f:=lhd c;have W:((o:Int)==(s:Int))=false:=(by rw [zCb];omega);clear K c;go_wp2;go_ret2;exact ⟨fZ f.out,p⟩
  · have C:o<=n.length:=(by rw [A.out];exact aq);rcases h1:eC (n.drop o) true 0 o with _ |⟨b,E⟩
    · have c:([],4)=t:=(by rw [<-x.out,aCc _ _ _ _ (aB5 h1)]);obtain ⟨f,v⟩:=hqq2 c (pP C h1);clear c C h1;go_wp2_with (go_at_call 239;refine (eR v.out k.out i g).mono ?_;rintro a m ⟨rfl,rfl⟩);go_ret2;exact ⟨fZ f.out,p⟩
    · have M:=wN _ _ _ _ _ _ h1;have y:=pO b E C h1;have aD:E<=s:=(by rw [zAw,A.out] at M;omega);have P:E<=n.length:=(by rw [A.out];exact aD);obtain ⟨v,aL⟩:=hqq2 y M.2.2;rcases h2:eC (n.drop E) true 0 E with _ |⟨d,a⟩
      · have c:([],4)=t:=(by rw [<-x.out,aCc _ _ _ _ (aB4 h1 h2)]);obtain ⟨f,w⟩:=hqq2 c (pP P h2);clear c C h1 h2 y M P;go_wp2_with fail;refine (eR v.out k.out i g).mono ?_;rintro a m ⟨rfl,rfl⟩;go_wp2_with fail;refine (eR w.out k.out i g).mono ?_;rintro a m ⟨rfl,rfl⟩;go_wp2;go_ret2;exact ⟨fZ f.out,p⟩
      · have U:=wN _ _ _ _ _ _ h2;have H:=pO d a P h2;have ax:a<=s:=(by rw [zAw,A.out] at U;omega);have w:=lhd H;have ae:rgo n e (q+1) o r l=if 257<=b∨b=r∨d=0 then ([],4) else if e - l.length < d then ([],3) else rgo n e q a b (l++List.replicate d (b:Int)):=aCb _ _ _ _ (vO h1 h2);obtain ⟨a5,aK⟩:=hqq2 ae U.2.2;clear C h1 h2 y M P H U ae;by_cases I:257<=b∨b=r∨d=0
        · have c:([],4)=t:=(by rw [<-x.out,a5.out,zBx I]);have f:=lhd c;have aw:257<=b∨(b < 257/\b=r)∨(b < 257/\b≠r/\d=0):=oM;clear c I;rcases aw with G |⟨G,T⟩|⟨G,T,ao⟩
          · go_wp2_with fail;refine (eR v.out k.out i g).mono ?_;rintro a m ⟨rfl,rfl⟩;go_wp2_with fail;refine (eR w.out k.out i g).mono ?_;rintro a m ⟨rfl,rfl⟩;go_wp2;go_ret2;exact ⟨fZ f.out,p⟩
          · subst T;go_wp2_with fail;refine (eR v.out k.out i g).mono ?_;rintro a m ⟨rfl,rfl⟩;go_wp2_with fail;refine (eR w.out k.out i g).mono ?_;rintro a m ⟨rfl,rfl⟩;go_wp2;go_ret2;exact ⟨fZ f.out,p⟩
          · subst ao;have W:((b:Int)==(r:Int))=false:=(by rw [zCb];omega);clear T;go_wp2_with fail;refine (eR v.out k.out i g).mono ?_;rintro a m ⟨rfl,rfl⟩;go_wp2_with fail;refine (eR w.out k.out i g).mono ?_;rintro a m ⟨rfl,rfl⟩;go_wp2;go_ret2;exact ⟨fZ f.out,p⟩
        · have aM:b < 257:=oM;have aT:0 < d:=oM;have aX:((d:Int)==0)=false:=(by rw [zCb];omega);have aY:decide ((257:Int)<=(b:Int))=false:=(by simp;omega);have W:((b:Int)==(r:Int))=false:=(by rw [zCb];omega);obtain ⟨z,O⟩:=eqx l.length;have af:rgo n e (q+1) o r l=if e - z < d then ([],3) else rgo n e q a b (l++List.replicate d (b:Int)):=(by rw [a5.out,zBw I,O]);obtain ⟨a6,a3⟩:=hqq2 af O;rw [O] at B au;obtain ⟨a1,a7,rfl,V⟩:=aR B;have an:=lhd B;have aB:=al.out;have aA:∃aH:Int,aH=(e:Int) -(z:Int):=⟨_,rfl⟩;clear I af O V B aA;by_cases L:e - z < d
          · have c:([],3)=t:=(by rw [<-x.out,a6.out,zBx L]);have f:=lhd c;have ay:(e:Int) -(z:Int) < (d:Int):=oM;clear c L aB;rcases a2.out with J |⟨J,aN⟩
            · subst J;go_wp2_with fail;refine (eR v.out k.out i g).mono ?_;rintro a m ⟨rfl,rfl⟩;go_wp2_with fail;refine (eR w.out k.out i g).mono ?_;rintro a m ⟨rfl,rfl⟩;go_wp2;go_ret2;exact ⟨fZ f.out,p⟩
            · go_wp2_with fail;refine (eR v.out k.out i g).mono ?_;rintro a m ⟨rfl,rfl⟩;go_wp2_with fail;refine (eR w.out k.out i g).mono ?_;rintro a m ⟨rfl,rfl⟩;go_wp2;go_ret2;exact ⟨fZ f.out,p⟩
          · have c:rgo n e q a b (l++List.replicate d (b:Int))=t:=(by rw [<-x.out,a6.out,zBw L]);have f:=lhd c;have ay:(d:Int)<=(e:Int) -(z:Int):=oM;have J:Q=(e:Int):=(by rcases a2.out with G |⟨_,G⟩<;> omega);subst J;clear c L;go_wp2_with fail;refine (eR v.out k.out i g).mono ?_;rintro a m ⟨rfl,rfl⟩;go_wp2_with fail;refine (eR w.out k.out i g).mono ?_;rintro a m ⟨rfl,rfl⟩;go_wp2;go_loopw [9,73] (fun Y X ai=>∃u:Nat,u<=d/\X=.int .u64 (u:Int)/\ai.ownsRow j.heap.size 3 1 Y (z+u) ((l++List.replicate u (b:Int)).map iv)/\Below j.heap.size j ai) (fun _ X _=>d -(intOf X).toNat)
            case atStart=>exact ⟨0,zAp _,rfl,by simpa using an.out,p⟩
            case round=>
             obtain ⟨u,aQ,rfl,N,y⟩:=hrel;have ag:=y.size;by_cases aS:u < d
             · go_wp2_with (at_builtin;refine bP _ rfl (.tmp 75) (.tmp 78) _ rfl j.heap.size 3 D (.int .i64 0) 1 8 underlying48 az aE aF aG rfl dC u9 (z+u) _ rfl N rfl rfl (by simp [Value.oneCell']) (by unfold maxLen;omega) oM ag ?_;intro aZ b0 aC aa aV av);have H:=bC y N aa ag;clear aa av;go_roundw
               case rel=>refine ⟨u+1,by omega,by go_num,?_,H⟩;rw [List.replicate_succ',<-zCo,zAz];exact aC
               case measure=>simp [intOf];omega
             · have ab:u=d:=oM;have aO:d<=u:=oM;rw [ab] at N;clear ab;go_wp2;refine ⟨⟨q,a,b,l++List.replicate d (b:Int),jB oM,rfl,rfl,?_,?_,ax,by omega,f.out,y⟩,by simp [intOf]⟩;rw [zAi,zCn,a3.out];exact N;rw [zAi,zCn,a3.out];omega
def aEz {v:Option Addr} {i o w:Nat} {b:List UInt8} {a:Int} {c:World} (m:Rd c w 1 v i (b.map bv)) (K:w<=c.heap.size) (t:i<=o) (r:o<=maxLen) (M:a<=1099511627776) (N:-9223372036854775808<=a):
 Calls prog 169 #[.slice v i o,.int .i64 a] c fun A J=>aBH c J (lV b a) A/\Below c.heap.size c J:=by
 obtain ⟨Q,C,G,H,I⟩:=info_parts aAL;have s:b.length=i:=by simpa using m.1
 obtain ⟨x,n⟩:=hqq2 s (m.mono K);have p:=Below.refl c.heap.size c;obtain ⟨z,g⟩:=eqx (lV b a);rw [g];rcases hfirst:eC b true 0 0 with _ |⟨u,l⟩
 · have e:eB b 0=(0,0,4):=pP (zAp _) (by simpa using hfirst);have f:([],4)=z:=(by rw [<-g,lV,hfirst]);obtain ⟨k,d⟩:=hqq2 e f;clear m s g e f hfirst;go_enter func169,ntmps169;go_wp2_with (go_at_call 239;refine (eR k.out n.out t r).mono ?_;rintro A R ⟨rfl,rfl⟩)
   go_loop [6] (fun P=>P=.int .u64 0) (fun _=>0)
   case atStart=>rfl
   case round=>subst hrel;go_wp2;go_ret2;exact ⟨fZ d.out,p⟩
 have D:=wN _ _ _ _ _ _ hfirst;have e:eB b 0=(u,(l:Int),0):=pO u l (zAp _) (by simpa using hfirst);have f:rgo b a.toNat u l 257 []=z:=(by rw [<-g,lV,hfirst]);have B:l<=i:=oM;obtain ⟨k,d,y⟩:=hqq3 e f D.2.2;obtain ⟨j,F⟩:∃j:Nat,a.toNat=j:=⟨_,rfl⟩;rw [F] at d;have E:j<=1099511627776:=oM;have q:a=(j:Int)∨(a < 0/\j<=0):=oM;clear m s g e f hfirst D F M N;rcases q with q |⟨O,L⟩;subst q;exact uG C G H I x n p t r B k y d E (.inl rfl);exact uG C G H I x n p t r B k y d E (.inr ⟨O,L⟩)
def aGH {A:Option Addr} {m c B:Nat} {b:List UInt8} {most:Int} {w:World} {l:List Int} (e:Nat) {k:Int} (n:lV b most=(l,k)) (u:l.length=e) (v:Rd w B 1 A m (b.map bv)) (o:B<=w.heap.size) (r:m<=c) (q:c<=maxLen) (s:most<=1099511627776) (t:-9223372036854775808<=most):
 Calls prog 169 #[.slice A m c,.int .i64 most] w fun g f=>∃a d,g=.returned (.tuple #[.slice a e d,.int .i64 k])/\Made f w.heap.size 3 1 a e d (l.map iv)/\Below w.heap.size w f:=by
 subst u;refine (aEz v o r q s t).mono fun g f ⟨⟨a,d,i,j⟩,p⟩=>?_;rw [n] at i j;exact ⟨a,d,i,j,p⟩
def aEF (a:World):Calls prog 230 #[.slice none 0 0,.int .i64 0,.int .i64 0] a fun b c=>b=.returned (.tuple #[])/\c=a:=by
 go_enter func230,ntmps230;go_wp2_with fail;go_loopw [6] (fun d wr=>d=.int .i64 1/\wr=a) (fun _ _=>0)
 case atStart=>exact ⟨rfl,rfl⟩
 case round=>obtain ⟨rfl,rfl⟩:=hrel;go_wp2_with fail;go_end0;exact ⟨rfl,rfl⟩
def aED (c:Int) (a:World):Calls prog 165 #[.slice none 0 0,.int .i64 0,.int .i64 0,.int .i64 c] a fun b d=>b=.returned (.tuple #[])/\d=a:=by
 go_enter func165,ntmps165;go_wp2_with fail;go_loopw [1,2] (fun e f wr=>e=.int .i64 0/\f=.int .i64 0/\wr=a) (fun _ _ _=>0)
 case atStart=>exact ⟨rfl,rfl,rfl⟩
 case round=>obtain ⟨rfl,rfl,rfl⟩:=hrel;go_wp2_with fail;refine (aEF wr).mono ?_;rintro b w1 ⟨rfl,rfl⟩;go_wp2_with fail;exact bodyPost_ret (results_none rfl _ _ _) rfl ⟨rfl,rfl⟩
def aCX (b:World):Calls prog 93 #[.slice none 0 0] b fun a c=>a=.returned (.tuple #[])/\c=b:=by
 have e:Calls prog 108 #[.int .u64 0] b fun a c=>a=.returned (.int .i64 (Lib.bitLen (0:Int).toNat))/\c=b:=calls_of_every_depth fun d=>AnyS.bits_LenIn shLen d 0 b oM oM;go_enter func93,ntmps93;go_wp2_with fail;refine e.mono ?_;rintro a w1 ⟨rfl,rfl⟩;go_wp2_with fail;refine (aED _ w1).mono ?_;rintro a f ⟨rfl,rfl⟩;go_wp2_with fail;go_end0;exact ⟨rfl,rfl⟩
def aCW {s:Nat} {y:Value} {a:Nat} {c:List Int} {b:World} (u:b.ownsRow s 3 1 y a (c.map (Value.int .i64))) (C:c.length=a) (K:a<=1000):
 ∃i j,y=.slice i a j/\Calls prog 93 #[.slice i a j] b fun d k=>d=.returned (.tuple #[])/\k.ownsRow s 3 1 (.slice i a j) a ((c.mergeSort fun q r=>decide (q<=r)).map (Value.int .i64))/\Keep (fun l=>(Value.slice i a j).ownBlock=some l) b k:=by
 subst C;rcases u.2 with ⟨m,v⟩|⟨e,t,J,m,o,p,D,B,F,G⟩;subst m;refine ⟨none,0,by rw [v],?_⟩;have H:c= []:=zBk v;subst H;refine (aCX b).mono ?_;rintro d k ⟨rfl,rfl⟩;exact ⟨rfl,by simpa using u,Keep.refl _ _⟩
 · subst m;refine ⟨_,t,rfl,?_⟩;have A:e < b.heap.size:=(zAh.1 p).1;have z:Sort.Holds (Value.int .i64) b e 0 c.toArray:=holds_of_blockI p (by rw [<-G];simp);refine (Any.slices_Sort_int shSrt e 0 t c b z A oM).mono ?_;rintro d k ⟨rfl,I,x,rfl⟩;have f:=grownBy_sortedI (w:=b) (g:=e) (n:=I) (os:=x) (c.mergeSort fun q r=>decide (q<=r)).toArray;refine ⟨rfl,ownsRow_sortedI (by simp) o p D B F,⟨f.os,f.tape,f.output,f.size,fun l o E=>f.block l o (fun d=>E d.symm)⟩⟩
end
end Go.Proofs.YtcoooelofcejbaaGreatDoor
