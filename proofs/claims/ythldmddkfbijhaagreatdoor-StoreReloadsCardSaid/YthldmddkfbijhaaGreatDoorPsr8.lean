/- Lemmas of the walk. Conditions: each its own. -/
import Derived.Test.YthldmddkfbijhaaGreatDoorPsr5
import Derived.Test.YthldmddkfbijhaaGreatDoorPsr7
import Derived.Test.YthldmddkfbijhaaGreatDoorSht
import Derived.Test.YthldmddkfbijhaaGreatDoorProg
set_option linter.all false
set_option maxRecDepth 100000
set_option maxHeartbeats 4000000
namespace Go.Proofs.YthldmddkfbijhaaGreatDoor
open Go.RowKit
theorem aK6 (x p:Nat) (hx:x < 18446744073709551616) (hp:Lib.ctz 64 x=p) (w:World) (hT:TabW w):
 Calls Tryz.prog 278 #[.int .u64 (x:Int)] w fun e w'=>e=.returned (.int .i64 (p:Int))/\w'=w:=by
 have:=Any7.bits_TrailingZeros64 shTz x hx w (fun _=>hT);rw [hp] at this;exact this
theorem iH (x p j:Nat) (hx:x < 18446744073709551616) (hp:x.testBit p=true) (hj:bJ x p=j) (hj64:j < bJ x 64) (w:World) (hT:TabW w) (hw:1 < w.heap.size):
 Calls Tryz.prog 264 #[.int .u64 (x:Int),(j:Int)] w fun e w'=>e=.returned (.int .i64 (p:Int))/\Below w.heap.size w w':=by
 have hctz:=aJ7 (x:=x) hx hp hj;have hpos:=fun i hi=>aFL (x:=x) hx hp (i:=i) hi;rw [hj] at hpos;have hle:=aER x;have h64:=oQ x 64;obtain ⟨Hctz,Hpos,Hle,Hj64,HT⟩:=hqq5 hctz hpos hle hj64 hT;clear hctz hpos hle hp hj hT;have g0:decide ((j:Int) < 0)=false:=by simp
 go_enter Tryz.func264,Tryz.ntmps264;go_wp2_with fail;refine (iQ _ 1 1 _ [x] _ (Rd.made _ _ 1 1 _ rfl) (by simpa using hx) oM).mono ?_;rintro e W ⟨rfl,hW⟩;have hbW:Below w.heap.size w W:=by first |(rw [hW];exact bR.alloc nL _)|(rw [<-hW];exact bR.alloc nL _)
 have hsum:(([x].map fun x=>bJ x 64).sum)=bJ x 64:=by simp
 rw [hsum];obtain ⟨o,ho⟩:=eqx (bJ x 64);rw [ho] at hj64 h64⊢;have g1:decide ((j:Int)>=(o:Int))=false:=by simp;omega
 clear hsum ho;have HbW:=lhd hbW;clear hW hbW;go_wp2_with fail;go_loopw [0,15] (fun v i wr=>∃q:Nat,q<=j/\i=.int .i64 (q:Int)/\v=.int .u64 ((clr x q:Nat):Int)/\wr=W) (fun _ i _=>j -(intOf i).toNat)
 case atStart=>exact ⟨0,zAp _,rfl,rfl,rfl⟩
 case round=>
  obtain ⟨q,hq,rfl,rfl,rfl⟩:=hrel;by_cases hlt:q < j
  · have h0:=Hpos.out q oM;have hl:=Hle.out q;have hs:clr x (q+1)=clr x q&&&(clr x q - 1):=rfl;obtain ⟨y,hy⟩:=eqx (clr x q);rw [hy] at h0 hl hs⊢;obtain ⟨y1,hy1⟩:=eqx (y - 1);rw [hy1] at hs;have e1:IntKind.u64.wrap ((y:Int) - 1)=(y1:Int):=(by rw [IntKind.wrap_u64];omega);have e2:=aC7 y y1 oM oM;have Hs:=lhd hs;clear hy hy1 hs h0 hl;go_wp2_with fail;go_roundw
    case rel=>exact ⟨q+1,by omega,by go_num,by rw [Hs.out],by first | rfl | trivial⟩
    case measure=>simp [intOf];omega
  · obtain rfl:q=j:=oM;have hl:=Hle.out q;have hc:=Hctz.out;obtain ⟨y,hy⟩:=eqx (clr x q);rw [hy] at hl hc⊢;have hT:=HT.out.below HbW.out hw;clear hy;go_wp2_with fail;refine (aK6 y p oM hc _ hT).mono ?_;rintro e w2 ⟨rfl,rfl⟩;go_wp2_with fail;go_ret;exact ⟨rfl,HbW.out⟩
theorem aJm (y:Nat) (h:y < 18446744073709551616):18446744073709551615 ^^^ y=18446744073709551615 - y:=by
 have e1:18446744073709551615=2 ^ 64 - 1:=dC;have e2:18446744073709551615 - y=2 ^ 64 -(y+1):=oM;rw [e2,e1];apply Nat.eq_of_testBit_eq;intro i;rw [Nat.testBit_xor,Nat.testBit_two_pow_sub_one,Nat.testBit_two_pow_sub_succ h];by_cases hi:i < 64
 · simp [hi]
 · have:y.testBit i=false:=Nat.testBit_lt_two_pow (zAl (show y < 2 ^ 64 from h) (zBp dC (show 64<=i by omega)));simp [hi,this]
theorem aKn (y:Nat) (h:y < 18446744073709551616):bits .xor .u64 IntKind.u64.max (y:Int)=((fN y false:Nat):Int):=by
 have e:IntKind.u64.max=((18446744073709551615:Nat):Int):=dC;rw [e,bits_xor_u64_nat _ _ oM h];congr 1;unfold fN;simp only [Bool.false_eq_true,if_false];exact aJm y h
theorem vF (gb:Nat) (l:List Bool) (b:Bool) (p j:Nat) (w:World) (hb:Bk w gb 230 (iI l)) (hl:l.length<=128) (hp:l[p]?=some b) (hj:(l.take p).count b=j) (hT:TabW w):
 Calls Tryz.prog 242 #[gb,(j:Int),.bool b] w fun e w'=>e=.returned (.int .i64 (p:Int))/\Below w.heap.size w w':=by
 have hpl:=(zAc.1 hp).1;have hw:1 < w.heap.size:=hT.pos;have hx0:=aCe _ b (nM l);have hx1:=aCe _ b (nH l hl);have hw0:=nM l;have hw1:=nH l hl;have c0:=hb.cell 0;have c1:=hb.cell 1;have c2:=hb.cell 2;have g0:decide ((j:Int) < 0)=false:=by simp
 have hlen:p < l.length:=hpl;have hsum:∀x:Nat,(([x].map fun x=>bJ x 64).sum)=bJ x 64:=fun x=>by simp
 obtain ⟨x0,ex0⟩:∃x,fN (w0 l) b=x:=⟨_,rfl⟩;obtain ⟨x1,ex1⟩:∃x,fN (w1 l) b=x:=⟨_,rfl⟩;unfold iI at c0 c1 c2;obtain ⟨y0,ey0⟩:∃x,w0 l=x:=⟨_,rfl⟩;obtain ⟨y1,ey1⟩:∃x,w1 l=x:=⟨_,rfl⟩;obtain ⟨N,hN⟩:∃n,l.length=n:=⟨_,rfl⟩;have i0:=ix0 (y0:Int) (y1:Int);have i1:=ix1 (y0:Int) (y1:Int);rw [ex0] at hx0;rw [ex1] at hx1;rw [ey0] at hw0 ex0;rw [ey1] at hw1 ex1;rw [hN,ey0,ey1] at c0 c1 c2;rw [hN] at hlen;have HT:=lhd hT;replace c0:w.cell? ⟨gb,0,none⟩=some (.int .i64 (N:Int)):=c0.trans rfl;have hlt:=hb.lt;obtain ⟨C0,HN128⟩:=hqq2 c0 hl;have hjp:j<=p:=by rw [<-hj];exact zAk zBv (by rw [zAj];omega)
 have Hjp:=lhd hjp;clear hjp;have hlo:=fun h=>aKC (b:=b) hl hp hj h;have hhi:=fun h=>aKD (b:=b) hl hp hj h;rw [ey0,ex0] at hlo hhi;rw [ey1,ex1] at hhi;obtain ⟨o0,ho0⟩:∃o,bJ x0 64=o:=⟨_,rfl⟩;obtain ⟨o1,ho1⟩:∃o,bJ x1 64=o:=⟨_,rfl⟩;obtain ⟨kk,hkk⟩:∃k,j - o0=k:=⟨_,rfl⟩;have hhi':64<=p->o0<=j/\x1.testBit (p - 64)=true/\bJ x1 (p - 64)=kk/\kk < o1:=fun h=>by obtain ⟨n,k,h1,h2,h3,h4,h5,h6⟩:=hhi h;rw [ho0] at h1;rw [ho1] at h6;subst h1;rw [hkk] at h3;subst h3;exact ⟨h2,h4,h5,h6⟩
 have hxx:b=false->bits .xor .u64 IntKind.u64.max (y0:Int)=(x0:Int)/\bits .xor .u64 IntKind.u64.max (y1:Int)=(x1:Int):=fun hf=>by rw [<-ex0,<-ex1,hf];exact ⟨aKn y0 hw0,aKn y1 hw1⟩
 have htt:b=true->x0=y0/\x1=y1:=fun hf=>by rw [<-ex0,<-ex1,hf];simp [fN]
 obtain ⟨Hlo,Hhi,Ho0,Ho1,Hkk,HN,Hp⟩:=hqq7 hlo hhi' ho0 ho1 hkk hN hpl;clear hlo hhi hhi' ho0 ho1 hkk hN hp hj hb hl hT ex0 ex1 ey0 ey1 hpl;obtain ⟨Hxx,Htt⟩:=hqq2 hxx htt;clear hxx htt;cases b with
 | true=>
   replace Htt:=Htt.out rfl;clear Hxx;go_enter Tryz.func242,Tryz.ntmps242;go_wp2_with fail;go_loopw [1,21] (fun v i wr=>∃q:Nat,i=.int .i64 (q:Int)/\((q=0/\v=.int .i64 (j:Int))∨(q=1/\64<=p/\v=.int .i64 (kk:Int)))/\Below w.heap.size w wr) (fun _ i _=>2 -(intOf i).toNat)
   case atStart=>exact ⟨0,rfl,.inl ⟨rfl,rfl⟩,Below.refl _ _⟩
   case round=>
    obtain ⟨q,rfl,(⟨rfl,rfl⟩|⟨rfl,h64,rfl⟩),hbw⟩:=hrel
    all_goals
        obtain ⟨z0,z1⟩:=Htt;subst z0;subst z1
    · clear c1 c2 i1;have hsz:=hbw.size;have d0:=(hbw.cell (p:=⟨gb,0,none⟩) hlt).trans c0;clear c0;go_wp2_with fail;refine (iQ _ 1 1 _ [x0] _ (Rd.made _ _ 1 1 _ rfl) (by simpa using hx0) oM).mono ?_;rintro e W ⟨rfl,hW⟩;have hbW:Below w.heap.size w W:=(by first |(rw [hW];exact hbw.alloc hsz _)|(rw [<-hW];exact hbw.alloc hsz _));rw [hsum,Ho0.out];have d1:=(hbW.cell (p:=⟨gb,0,none⟩) hlt).trans C0.out;clear hW d0;by_cases h:p < 64
      · obtain ⟨s1,s2,s3⟩:=Hlo.out h;have s4:=s3;rw [Ho0.out] at s4;have g1:j < o0:=s4;have e5:IntKind.i64.wrap (p:Int)=(p:Int):=(by rw [IntKind.wrap_i64];omega);obtain ⟨S1,S2,S3⟩:=hqq3 s1 s2 s3;clear s1 s2 s3 s4;go_wp2_with fail;refine (iH x0 p j hx0 S1.out S2.out S3.out _ (HT.out.below hbW hw) (zAl hw hbW.size)).mono ?_;rintro e W2 ⟨rfl,hb2⟩;have hbW2:=hbW.trans (hb2.mono hbW.size);have d2:=(hbW2.cell (p:=⟨gb,0,none⟩) hlt).trans C0.out;clear d1;go_wp2_with fail;go_ret;exact ⟨rfl,hbW2⟩
      · obtain ⟨s0,s1,s2,s3⟩:=Hhi.out oM;have g1:¬j < o0:=oM;have g2:decide (j < o0)=false:=zBy g1;have e5:IntKind.i64.wrap ((j:Int) -(o0:Int))=(kk:Int):=(by have:=Hkk.out;have h3:=HN128.out;have h4:=Hjp.out;have h5:=Hp.out;rw [IntKind.wrap_i64];omega);clear s0 s1 s2 s3;go_wp2_with fail;go_roundw
        case rel=>exact ⟨1,by go_num,.inr ⟨by first | rfl | trivial,by omega,by go_num⟩,hbW⟩
        case measure=>simp [intOf]
    · clear c1 c2 i0;have hsz:=hbw.size;have d0:=(hbw.cell (p:=⟨gb,0,none⟩) hlt).trans c0;clear c0;go_wp2_with fail;refine (iQ _ 1 1 _ [x1] _ (Rd.made _ _ 1 1 _ rfl) (by simpa using hx1) oM).mono ?_;rintro e W ⟨rfl,hW⟩;have hbW:Below w.heap.size w W:=(by first |(rw [hW];exact hbw.alloc hsz _)|(rw [<-hW];exact hbw.alloc hsz _));rw [hsum,Ho1.out];have d1:=(hbW.cell (p:=⟨gb,0,none⟩) hlt).trans C0.out;clear hW d0;obtain ⟨s0,s1,s2,s3⟩:=Hhi.out h64;have s4:=s3;rw [<-Ho1.out] at s3;have g1:kk < o1:=s4;have e5:IntKind.i64.wrap (64+((p - 64:Nat):Int))=(p:Int):=(by have h3:=HN128.out;have h4:=Hp.out;rw [IntKind.wrap_i64];omega);obtain ⟨pp,hpp⟩:∃x,p - 64=x:=⟨_,rfl⟩;rw [hpp] at e5 s1 s2;obtain ⟨S1,S2,S3⟩:=hqq3 s1 s2 s3;clear s0 s1 s2 s3 s4 hpp h64;go_wp2_with fail;refine (iH x1 pp kk hx1 S1.out S2.out S3.out _ (HT.out.below hbW hw) (zAl hw hbW.size)).mono ?_;rintro e W2 ⟨rfl,hb2⟩;have hbW2:=hbW.trans (hb2.mono hbW.size);have d2:=(hbW2.cell (p:=⟨gb,0,none⟩) hlt).trans C0.out;clear d1;go_wp2_with fail;go_ret;exact ⟨rfl,hbW2⟩
 | false=>
   replace Hxx:=Hxx.out rfl;clear Htt;go_enter Tryz.func242,Tryz.ntmps242;go_wp2_with fail;go_loopw [1,21] (fun v i wr=>∃q:Nat,i=.int .i64 (q:Int)/\((q=0/\v=.int .i64 (j:Int))∨(q=1/\64<=p/\v=.int .i64 (kk:Int)))/\Below w.heap.size w wr) (fun _ i _=>2 -(intOf i).toNat)
   case atStart=>exact ⟨0,rfl,.inl ⟨rfl,rfl⟩,Below.refl _ _⟩
   case round=>
    obtain ⟨q,rfl,(⟨rfl,rfl⟩|⟨rfl,h64,rfl⟩),hbw⟩:=hrel
    all_goals
        obtain ⟨z0,z1⟩:=Hxx
    · clear c1 c2 i1;have hsz:=hbw.size;have d0:=(hbw.cell (p:=⟨gb,0,none⟩) hlt).trans c0;clear c0;go_wp2_with fail;refine (iQ _ 1 1 _ [x0] _ (Rd.made _ _ 1 1 _ rfl) (by simpa using hx0) oM).mono ?_;rintro e W ⟨rfl,hW⟩;have hbW:Below w.heap.size w W:=(by first |(rw [hW];exact hbw.alloc hsz _)|(rw [<-hW];exact hbw.alloc hsz _));rw [hsum,Ho0.out];have d1:=(hbW.cell (p:=⟨gb,0,none⟩) hlt).trans C0.out;clear hW d0;by_cases h:p < 64
      · obtain ⟨s1,s2,s3⟩:=Hlo.out h;have s4:=s3;rw [Ho0.out] at s4;have g1:j < o0:=s4;have e5:IntKind.i64.wrap (p:Int)=(p:Int):=(by rw [IntKind.wrap_i64];omega);obtain ⟨S1,S2,S3⟩:=hqq3 s1 s2 s3;clear s1 s2 s3 s4;go_wp2_with fail;refine (iH x0 p j hx0 S1.out S2.out S3.out _ (HT.out.below hbW hw) (zAl hw hbW.size)).mono ?_;rintro e W2 ⟨rfl,hb2⟩;have hbW2:=hbW.trans (hb2.mono hbW.size);have d2:=(hbW2.cell (p:=⟨gb,0,none⟩) hlt).trans C0.out;clear d1;go_wp2_with fail;go_ret;exact ⟨rfl,hbW2⟩
      · obtain ⟨s0,s1,s2,s3⟩:=Hhi.out oM;have g1:¬j < o0:=oM;have g2:decide (j < o0)=false:=zBy g1;have e5:IntKind.i64.wrap ((j:Int) -(o0:Int))=(kk:Int):=(by have:=Hkk.out;have h3:=HN128.out;have h4:=Hjp.out;have h5:=Hp.out;rw [IntKind.wrap_i64];omega);clear s0 s1 s2 s3;go_wp2_with fail;go_roundw
        case rel=>exact ⟨1,by go_num,.inr ⟨by first | rfl | trivial,by omega,by go_num⟩,hbW⟩
        case measure=>simp [intOf]
    · clear c1 c2 i0;have hsz:=hbw.size;have d0:=(hbw.cell (p:=⟨gb,0,none⟩) hlt).trans c0;clear c0;go_wp2_with fail;refine (iQ _ 1 1 _ [x1] _ (Rd.made _ _ 1 1 _ rfl) (by simpa using hx1) oM).mono ?_;rintro e W ⟨rfl,hW⟩;have hbW:Below w.heap.size w W:=(by first |(rw [hW];exact hbw.alloc hsz _)|(rw [<-hW];exact hbw.alloc hsz _));rw [hsum,Ho1.out];have d1:=(hbW.cell (p:=⟨gb,0,none⟩) hlt).trans C0.out;clear hW d0;obtain ⟨s0,s1,s2,s3⟩:=Hhi.out h64;have s4:=s3;rw [<-Ho1.out] at s3;have g1:kk < o1:=s4;have e5:IntKind.i64.wrap (64+((p - 64:Nat):Int))=(p:Int):=(by have h3:=HN128.out;have h4:=Hp.out;rw [IntKind.wrap_i64];omega);obtain ⟨pp,hpp⟩:∃x,p - 64=x:=⟨_,rfl⟩;rw [hpp] at e5 s1 s2;obtain ⟨S1,S2,S3⟩:=hqq3 s1 s2 s3;clear s0 s1 s2 s3 s4 hpp h64;go_wp2_with fail;refine (iH x1 pp kk hx1 S1.out S2.out S3.out _ (HT.out.below hbW hw) (zAl hw hbW.size)).mono ?_;rintro e W2 ⟨rfl,hb2⟩;have hbW2:=hbW.trans (hb2.mono hbW.size);have d2:=(hbW2.cell (p:=⟨gb,0,none⟩) hlt).trans C0.out;clear d1;go_wp2_with fail;go_ret;exact ⟨rfl,hbW2⟩
def aEU (gb:Nat) (cs:Array Value):Value->World->Prop:=fun _ w=>Bk w gb 230 cs
theorem xZ (gb:Nat) (cs:Array Value):Stb (aEU gb cs):=fun _ _ _ h hg=>Bk.below h hg (Bk.lt h)
def nY (n:Int) (u0 u1:Nat):Array Value:=#[.int .i64 n,.int .u64 (u0:Int),.int .u64 (u1:Int)]
theorem yB (n:Int) (u0 u1 i:Nat) (hi:i < 2):(nY n u0 u1)[1+i]?=some (.int .u64 (((if i=0 then u0 else u1):Nat):Int)):=by
 obtain rfl | rfl:i=0∨i=1:=oM;rfl;rfl
theorem yA (n:Int) (u0 u1 y i:Nat) (hi:i < 2):(nY n u0 u1).setIfInBounds (1+i) (.int .u64 (y:Int))=nY n (if i=0 then y else u0) (if i=0 then u1 else y):=by
 obtain rfl | rfl:i=0∨i=1:=oM;rfl;rfl
theorem aAO {w:World} {gb:Nat} {n:Int} {u0 u1:Nat} (h:Bk w gb 230 (nY n u0 u1)) (m:Int):Bk (w.setCell ⟨gb,0,none⟩ (.int .i64 m)) gb 230 (nY m u0 u1):=h.set 0 _
structure InsI (l l':List Bool) (k:Nat) (b:Bool) (i a:Nat) (bb:Bool) (u0 u1:Nat):Prop where
 at0:i=0->k < 64/\a=k/\bb=b/\u0=w0 l/\u1=w1 l
 at1:i=1->a < 64/\u0=w0 l'/\rE u1 a bb=w1 l'/\u1 < 18446744073709551616
 at2:i=2->u0=w0 l'/\u1=w1 l'
 le:i<=2
theorem vG (gb:Nat) (l:List Bool) (k:Nat) (b:Bool) (w:World) (hb:Bk w gb 230 (iI l)) (hl:l.length<=127) (hk:k<=l.length):
 Calls Tryz.prog 249 #[gb,(k:Int),.bool b] w fun e w'=>e=.returned (.int .i64 0)/\Bk w' gb 230 (iI (aU l k b))/\Keep (fun b=>b=gb) w w':=by
 obtain ⟨n,hn⟩:=eqx l.length;have hl':(aU l k b).length=n+1:=by rw [gD _ _ hk,hn]
 have hb3:Bk w gb 230 (nY (n:Int) (w0 l) (w1 l)):=by rw [<-hn];exact hb
 have hfin:∀W,Bk W gb 230 (nY ((n+1:Nat):Int) (w0 (aU l k b)) (w1 (aU l k b)))->Bk W gb 230 (iI (aU l k b)):=fun W h=>by unfold iI;rw [hl'];exact h
 have h0l:=nM l;have h1l:=nH l oM;have hstart:∃i0 a0:Nat,(k:Int)/ 64=(i0:Int)/\(k:Int)% 64=(a0:Int)/\InsI l (aU l k b) k b i0 a0 b (w0 l) (w1 l):=by by_cases c:k < 64;exact ⟨0,k,by omega,by omega,fun _=>⟨c,rfl,rfl,rfl,rfl⟩,fun e=>by omega,fun e=>by omega,by omega⟩;obtain ⟨e0,e1⟩:=aKH l k b hk oM oM;exact ⟨1,k - 64,by omega,by omega,fun e=>by omega,fun _=>⟨by omega,e0.symm,e1.symm,h1l⟩,fun e=>by omega,by omega⟩
 have hstep:∀i a bb u0 u1,i < 2->InsI l (aU l k b) k b i a bb u0 u1->a < 64/\(if i=0 then u0 else u1) < 18446744073709551616/\InsI l (aU l k b) k b (i+1) 0 ((if i=0 then u0 else u1).testBit 63) (if i=0 then rE u0 a bb else u0) (if i=0 then u1 else rE u1 a bb):=by intro i a bb u0 u1 hi h;obtain rfl | rfl:i=0∨i=1:=oM;obtain ⟨c1,rfl,rfl,rfl,rfl⟩:=h.at0 rfl;obtain ⟨e0,e1⟩:=aKG l a bb hk oM c1;have hb63:(w0 l).testBit 63=l.getD 63 false:=(by rw [jM];simp);simp only [if_true,hb63];exact ⟨c1,h0l,fun e=>by omega,fun _=>⟨by omega,e0.symm,e1.symm,h1l⟩,fun e=>by omega,by omega⟩;obtain ⟨c1,c2,c3,c4⟩:=h.at1 rfl;simp only [show ¬((1:Nat)=0) by omega,if_false];exact ⟨c1,c4,fun e=>by omega,fun e=>by omega,fun _=>⟨c2,c3⟩,by omega⟩
 obtain ⟨i0,a0,hi0,ha0,hI0⟩:=hstart;have hkn:¬((k:Int) > (n:Int)):=oM;have hk0:decide ((k:Int) < 0)=false:=by simp
 have hn0:((n:Int)==128)=false:=by rw [zCb];omega
 have c0:w.cell? ⟨gb,0,none⟩=some (.int .i64 (n:Int)):=(hb3.cell 0).trans rfl;have hgb:=hb3.lt;have hn127:n<=127:=oM;obtain ⟨Hb3,Hfin,Hstep,HI0⟩:=hqq4 hb3 hfin hstep hI0;clear hb hb3 hfin h0l h1l hstep hI0 hl' hn hl hk;go_enter Tryz.func249,Tryz.ntmps249;go_wp2_with fail;clear c0 hk0 hkn;go_loopw [2,7,8] (fun x y z wr=>∃(i a:Nat) (bb:Bool) (u0 u1:Nat),x=.bool bb/\y=.int .i64 (a:Int)/\z=.int .i64 (i:Int)/\InsI l (aU l k b) k b i a bb u0 u1/\Bk wr gb 230 (nY (n:Int) u0 u1)/\Keep (fun b=>b=gb) w wr) (fun _ _ z _=>2 -(intOf z).toNat)
 case atStart=>exact ⟨i0,a0,b,_,_,rfl,rfl,rfl,HI0.out,Hb3.out,Keep.refl _ _⟩
 case round=>
  obtain ⟨i,pa,bb,u0,u1,rfl,rfl,rfl,hI,hbk,hkp⟩:=hrel;by_cases hi2:i < 2
  · obtain ⟨hp64,hx64,hI'⟩:=Hstep.out i pa bb u0 u1 hi2 hI;have hci:=yB (n:Int) u0 u1 i hi2;have hset:=fun y=>yA (n:Int) u0 u1 y i hi2;obtain ⟨x,hx⟩:∃x,(if i=0 then u0 else u1)=x:=⟨_,rfl⟩;obtain ⟨y,hy⟩:=eqx (rE x pa bb);obtain ⟨cs,hcs⟩:=eqx (nY (n:Int) u0 u1)
    have hI2:InsI l (aU l k b) k b (i+1) 0 (x.testBit 63) (if i=0 then y else u0) (if i=0 then u1 else y):=by
        have h1:(if i=0 then rE u0 pa bb else u0)=if i=0 then y else u0:=by
         split
         · rw [<-hy,<-hx,zBx (by assumption)]
         rfl
        have h2:(if i=0 then u1 else rE u1 pa bb)=if i=0 then u1 else y:=by
         split;rfl
         · rw [<-hy,<-hx,zBw (by assumption)]
        rw [hx,h1,h2] at hI';exact hI'
    rw [hx] at hci hx64;rw [hcs] at hci hset hbk;have hiI:(i:Int) < 2:=oM;obtain ⟨Hci,Hset,Hcs,Hy,HI2,Hkp⟩:=hqq6 hci hset hbk hy hI2 hkp;clear hI hI' hbk hkp hci hset hx hy hcs hI2;go_wp2_with fail;refine wp_region_any kR ?_;refine bH [38,39,40,41,42,43,44,45,46,47,48,37,49,50,51,52,53,2] (fun b=>b=gb) 17 [7,17] (fun w1=>Bk w1 gb 230 cs) (aEU gb (cs.setIfInBounds (1+i) (.int .u64 (y:Int)))) [is gb,is (i:Int),is gb,is (i:Int),is gb,is (.pointer (some ⟨gb,1,none⟩)),is (.pointer (some ⟨gb,1+i,none⟩)),is (.int .u64 (x:Int)),is (pa:Int),is (.bool bb),is (.tuple #[.int .u64 (y:Int),.bool (x.testBit 63)]),is (.tuple #[.int .u64 (y:Int),.bool (x.testBit 63)]),is (.int .u64 (y:Int)),is (.bool (x.testBit 63)),is gb,is (.pointer (some ⟨gb,1,none⟩)),is (.pointer (some ⟨gb,1+i,none⟩)),cR,is (.bool (x.testBit 63))] _ _ rfl kR kR (Hcs.out) (fun w1 w2 h _ hg=>Bk.below h hg h.lt) (xZ _ _) tA0 ?_ ?_
    · refine aM ?_;refine pH3 0 (.pointer (some ⟨gb,0,none⟩)) ?_;refine pH3 8 (.int .i64 (i:Int)) ?_;refine pH3 0 (.pointer (some ⟨gb,0,none⟩)) ?_;refine pH3 8 (.int .i64 (i:Int)) ?_;refine pV3 2 40 ?_;refine pV3 4 42 ?_;refine pW3 5 43 3 41 ?_;refine sC3 (fun _ w5 _ hU _ _ _ hval _ _ _ hK=>?_) ?_
      · have hpre:=hU rfl;have e44:_=_:=hval 6 44 kR rfl;have c0:w5.cell? ⟨gb,1+i,none⟩=some (.int .u64 (x:Int)):=(hpre.cell (1+i)).trans Hci.out;go_simp;exact kq hK rfl
      refine pH3 7 (.int .i64 (pa:Int)) ?_;refine pH3 2 (.bool bb) ?_;refine sC3 (fun _ w5 _ _ _ _ _ hval _ _ _ hK=>?_) ?_
      · have e45:_=_:=hval 7 45 kR rfl;have e46:_=_:=hval 8 46 kR rfl;have e47:_=_:=hval 9 47 kR rfl;go_simp;refine (aJl x pa bb hx64 hp64 w5).mono ?_;rintro e w8 ⟨rfl,rfl⟩;rw [Hy.out];exact kq hK rfl
      refine pV3 10 48 ?_;refine pV3 11 37 ?_;refine pV3 11 37 ?_;refine pV3 0 38 ?_;refine pV3 14 51 ?_;refine pW3 15 52 1 39 ?_;refine sC3 (fun _ w5 _ hU _ _ _ hval _ _ _ hK=>?_) ?_
      · have hpre:=hU rfl;have e53:_=_:=hval 16 53 kR rfl;have e49:_=_:=hval 12 49 kR rfl;have c0:w5.cell? ⟨gb,1+i,none⟩=some (.int .u64 (x:Int)):=(hpre.cell (1+i)).trans Hci.out;have f0:=hpre.frozen (1+i);go_simp;exact hK (.bool true) _ (aW (Keep.setCell (F:=fun b=>b=gb) (Keep.refl _ _) (p:=⟨gb,1+i,none⟩) (.inl rfl) _)) (hpre.set (1+i) _)
      refine pV3 13 50 ?_;exact aC
    · intro ev w6 hS hval hall;replace hS:Keep (fun b=>b=gb) wr w6:=kD hS;have e2:ev (.tmp 2)=.bool (x.testBit 63):=hval 18 2 rfl;obtain ⟨vJ,pJ⟩:∃vJ0,(aEU gb (cs.setIfInBounds (1+i) (.int .u64 (y:Int)))) vJ0 w6:=hall 17 dC;simp only [aI,zq1,zq2,Act.put,zq3,zq4,zq5];rw [e2];clear hval hall;have hbk2:Bk w6 gb 230 _:=pJ;rw [Hset.out] at hbk2;have hkp2:=Hkp.out.trans hS;obtain ⟨Hbk2,Hkp2⟩:=hqq2 hbk2 hkp2;clear hbk2 hkp2 pJ hS;go_wp2_with fail;go_roundw
      case rel=>exact ⟨i+1,0,_,_,_,rfl,rfl,by go_num,HI2.out,Hbk2.out,Hkp2.out⟩
      case measure=>simp [intOf];omega
  · obtain rfl:i=2:=(by have:=hI.le;omega);obtain ⟨rfl,rfl⟩:=hI.at2 rfl;have c0:wr.cell? ⟨gb,0,none⟩=some (.int .i64 (n:Int)):=(hbk.cell 0).trans rfl;have f0:=hbk.frozen 0;have hgw:=hbk.lt;obtain ⟨Hbk,Hkp⟩:=hqq2 hbk hkp;clear hbk hkp hI;have e1:IntKind.i64.wrap ((n:Int)+1)=((n+1:Nat):Int):=(by rw [IntKind.wrap_i64];omega);go_wp2_with fail;go_ret;exact ⟨rfl,Hfin.out _ (aAO Hbk.out _),Keep.setCell (F:=fun b=>b=gb) Hkp.out (p:=⟨gb,0,none⟩) (.inl rfl) _⟩
theorem vH (gb:Nat) (l:List Bool) (k:Nat) (w:World) (hb:Bk w gb 230 (iI l)) (hl:l.length<=128) (hk:k < l.length):
 Calls Tryz.prog 265 #[gb,(k:Int)] w fun e w'=>e=.returned (.tuple #[.bool (l.getD k false),.int .i64 0])/\Bk w' gb 230 (iI (aF l k))/\Keep (fun b=>b=gb) w w':=by
 have hhas:=tA gb l k w hb hk;obtain ⟨n,hn⟩:=eqx l.length;have hl':(aF l k).length+1=n:=by rw [cZ _ hk,hn]
 have hb3:Bk w gb 230 (nY (n:Int) (w0 l) (w1 l)):=by rw [<-hn];exact hb
 have hfin:∀W,Bk W gb 230 (nY ((n:Int) - 1) (w0 (aF l k)) (w1 (aF l k)))->Bk W gb 230 (iI (aF l k)):=fun W h=>by unfold iI;rw [show (((aF l k).length:Nat):Int)=(n:Int) - 1 by omega];exact h
 have h0l:=nM l;have h1l:=nH l hl;obtain ⟨i0,a0,hi0,ha0,hi2,ha64,hke⟩:∃i0 a0:Nat,(k:Int)/ 64=(i0:Int)/\(k:Int)% 64=(a0:Int)/\i0 < 2/\a0 < 64/\k=64*i0+a0:=⟨k / 64,k % 64,by omega,by omega,by omega,by omega,by omega⟩;have hlo:i0=0->w0 (aF l k)=nW (w0 l) a0 ((w1 l).testBit 0)/\w1 (aF l k)=nW (w1 l) 0 false/\(w0 l).testBit a0=l.getD k false:=fun e=>by have e2:k=a0:=oM;have h1:=aKY l k hk hl oM;rw [iC,zBq,<-e2];refine ⟨h1.1,h1.2,?_⟩;rw [jM,zBz oM,Bool.true_and]
 have hhi:i0=1->w0 (aF l k)=w0 l/\w1 (aF l k)=nW (w1 l) a0 false/\(w1 l).testBit a0=l.getD k false:=fun e=>by have e2:k - 64=a0:=oM;have h1:=cut_hi l k hk hl oM;rw [e2] at h1;refine ⟨h1.1,h1.2,?_⟩;rw [iC];congr 1;omega
 have hgb:=hb3.lt;have hn128:n<=128:=oM;have hc1:0 < nW 0 0 true:=dC;obtain ⟨Hb3,Hfin,Hlo,Hhi,H0l,H1l⟩:=hqq6 hb3 hfin hlo hhi h0l h1l;clear hb hb3 hfin h0l h1l hlo hhi hl' hn hl hk hc1 hke;go_enter Tryz.func265,Tryz.ntmps265;go_wp2_with fail;refine hhas.mono ?_;rintro e wz ⟨rfl,hbw⟩;have hb1:=Hb3.out.below hbw hgb;have hkp1:Keep (fun b=>b=gb) w wz:=Keep.of_below hbw;obtain ⟨Hb1,Hkp1⟩:=hqq2 hb1 hkp1;clear hhas hbw hb1 hkp1 Hb3;go_wp2_with fail;go_loopw [7,8] (fun x z wr=>∃(i u1:Nat) (bb:Bool),x=.bool bb/\z=.int .i64 (i:Int)/\i0<=i/\i < 2/\(i=1->bb=false/\u1=w1 l)/\(i=0->bb=(w1 l).testBit 0/\u1=nW (w1 l) 0 false)/\Bk wr gb 230 (nY (n:Int) (w0 l) u1)/\Keep (fun b=>b=gb) w wr) (fun _ z _=>(intOf z).toNat)
 case atStart=>exact ⟨1,w1 l,false,rfl,rfl,by omega,by omega,fun _=>⟨rfl,rfl⟩,fun e=>by omega,Hb1.out,Hkp1.out⟩
 case round=>
  obtain ⟨i,u1,bb,rfl,rfl,hi0i,hi2',h1,h0,hbk,hkp⟩:=hrel;by_cases hgt:i0 < i
  · obtain rfl:i=1:=oM;obtain ⟨rfl,rfl⟩:=h1 rfl;obtain rfl:i0=0:=oM;obtain ⟨i,hi1⟩:∃i,i=1:=⟨1,rfl⟩;have hci:=yB (n:Int) (w0 l) (w1 l) i oM;have hset:=fun y=>yA (n:Int) (w0 l) (w1 l) y i oM;rw [zBw oM] at hci;obtain ⟨x,hx⟩:=eqx (w1 l);obtain ⟨y,hy⟩:=eqx (nW x 0 false);obtain ⟨cs,hcs⟩:=eqx (nY (n:Int) (w0 l) (w1 l));have hx64:=H1l.out;rw [hcs] at hci hset hbk;rw [hx] at hci hx64;have hyy:nW (w1 l) 0 false=y:=(by rw [hx];exact hy);obtain ⟨tb,htb⟩:=eqx (x.testBit 0);have hbit:(w1 l).testBit 0=tb:=(by rw [hx];exact htb);have Htb:=lhd htb;have hiI3:(i:Int) < 2:=oM;obtain ⟨Hci,Hset,Hcs,Hy,Hyy,Hbit,Hkp⟩:=hqq7 hci hset hbk hy hyy hbit hkp;have hi2n:i < 2:=oM;have hiN:¬i=0:=oM;have hiI2:¬(i:Int)<=0:=oM;rw [show ((1:Nat):Int)=(i:Int) by omega];have Hi1:=lhd hi1;have hgi:¬(i:Int)<=0:=hiI2;have hgi2:(i:Int) > 0:=oM;clear hbk hkp hci hset hx hy hyy hcs h1 h0 hbit hi1 hgt htb;go_wp2_with fail;refine wp_region_any kR ?_;refine bH [22,23,24,25,26,27,28,29,30,31,21,32,33,34,35,36,7] (fun b=>b=gb) 16 [7,16] (fun w1=>Bk w1 gb 230 cs) (aEU gb (cs.setIfInBounds (1+i) (.int .u64 (y:Int)))) [is gb,is (i:Int),is gb,is (i:Int),is gb,is (.pointer (some ⟨gb,1,none⟩)),is (.pointer (some ⟨gb,1+i,none⟩)),is (.int .u64 (x:Int)),is (.bool false),is (.tuple #[.int .u64 (y:Int),.bool tb]),is (.tuple #[.int .u64 (y:Int),.bool tb]),is (.int .u64 (y:Int)),is (.bool tb),is gb,is (.pointer (some ⟨gb,1,none⟩)),is (.pointer (some ⟨gb,1+i,none⟩)),cR,is (.bool tb)] _ _ rfl kR kR (Hcs.out) (fun w1 w2 h _ hg=>Bk.below h hg h.lt) (xZ _ _) tA0 ?_ ?_
    · refine aM ?_;refine pH3 0 (.pointer (some ⟨gb,0,none⟩)) ?_;refine pH3 8 (.int .i64 (i:Int)) ?_;refine pH3 0 (.pointer (some ⟨gb,0,none⟩)) ?_;refine pH3 8 (.int .i64 (i:Int)) ?_;refine pV3 2 24 ?_;refine pV3 4 26 ?_;refine pW3 5 27 3 25 ?_;refine sC3 (fun _ w5 _ hU _ _ _ hval _ _ _ hK=>?_) ?_
      · have hpre:=hU rfl;have e28:_=_:=hval 6 28 kR rfl;have c0:w5.cell? ⟨gb,1+i,none⟩=some (.int .u64 (x:Int)):=(hpre.cell (1+i)).trans Hci.out;go_simp;exact kq hK rfl
      refine pH3 7 (.bool false) ?_;refine sC3 (fun _ w5 _ _ _ _ _ hval _ _ _ hK=>?_) ?_
      · have e29:_=_:=hval 7 29 kR rfl;have e30:_=_:=hval 8 30 kR rfl;go_simp;refine (aDM x 0 false hx64 oM w5).mono ?_;rintro e w8 ⟨rfl,rfl⟩;rw [Hy.out,Htb.out];exact kq hK rfl
      refine pV3 9 31 ?_;refine pV3 10 21 ?_;refine pV3 10 21 ?_;refine pV3 0 22 ?_;refine pV3 13 34 ?_;refine pW3 14 35 1 23 ?_;refine sC3 (fun _ w5 _ hU _ _ _ hval _ _ _ hK=>?_) ?_
      · have hpre:=hU rfl;have e36:_=_:=hval 15 36 kR rfl;have e32:_=_:=hval 11 32 kR rfl;have c0:w5.cell? ⟨gb,1+i,none⟩=some (.int .u64 (x:Int)):=(hpre.cell (1+i)).trans Hci.out;have f0:=hpre.frozen (1+i);go_simp;exact hK (.bool true) _ (aW (Keep.setCell (F:=fun b=>b=gb) (Keep.refl _ _) (p:=⟨gb,1+i,none⟩) (.inl rfl) _)) (hpre.set (1+i) _)
      refine pV3 12 33 ?_;exact aC
    · intro ev w6 hS hval hall;replace hS:Keep (fun b=>b=gb) wr w6:=kD hS;have e7:ev (.tmp 7)=.bool tb:=hval 17 7 rfl;obtain ⟨vJ,pJ⟩:∃vJ0,(aEU gb (cs.setIfInBounds (1+i) (.int .u64 (y:Int)))) vJ0 w6:=hall 16 dC;simp only [aI,zq1,zq2,Act.put,zq3,zq4,zq5];rw [e7];clear hval hall;have hbk2:Bk w6 gb 230 _:=pJ;rw [Hset.out,zBw hiN,zBw hiN] at hbk2;have hkp2:=Hkp.out.trans hS;obtain ⟨Hbk2,Hkp2⟩:=hqq2 hbk2 hkp2;have e1:IntKind.i64.wrap ((i:Int) - 1)=((0:Nat):Int):=(by have:=Hi1.out;rw [IntKind.wrap_i64];omega);clear hbk2 hkp2 pJ hS;go_wp2_with fail;go_roundw
      case rel=>exact ⟨0,_,_,rfl,rfl,by omega,by omega,fun e=>by omega,fun _=>⟨Hbit.out.symm,Hyy.out.symm⟩,Hbk2.out,Hkp2.out⟩
      case measure=>have:=Hi1.out;simp [intOf];omega
  · obtain rfl:i=i0:=oM
    have hfin2:∃x:Nat,(nY (n:Int) (w0 l) u1)[1+i]?=some (.int .u64 (x:Int))/\x < 18446744073709551616/\(nY (n:Int) (w0 l) u1).setIfInBounds (1+i) (.int .u64 ((nW x a0 bb:Nat):Int))=nY (n:Int) (w0 (aF l k)) (w1 (aF l k))/\x.testBit a0=l.getD k false:=by
        have hci:=yB (n:Int) (w0 l) u1 i hi2';have hset:=fun y=>yA (n:Int) (w0 l) u1 y i hi2';obtain hz | hz:i=0∨i=1:=oM
        · obtain ⟨e1,e2⟩:=h0 hz;obtain ⟨e3,e4,e5⟩:=Hlo.out hz;rw [zBx hz] at hci;refine ⟨w0 l,hci,H0l.out,?_,e5⟩;rw [hset,zBx hz,zBx hz,e3,e4,e1,e2]
        · obtain ⟨e1,e2⟩:=h1 hz;obtain ⟨e3,e4,e5⟩:=Hhi.out hz;have hz0:¬i=0:=oM;rw [zBw hz0] at hci;refine ⟨u1,hci,by rw [e2];exact H1l.out,?_,by rw [e2];exact e5⟩;rw [hset,zBw hz0,zBw hz0,e3,e4,e1,e2]
    obtain ⟨x,hci,hx64,hset,hbit⟩:=hfin2;obtain ⟨pa,hpa⟩:=eqx a0;subst hpa;have hp64:=ha64;obtain ⟨y,hy⟩:=eqx (nW x a0 bb);obtain ⟨cs,hcs⟩:=eqx (nY (n:Int) (w0 l) u1);rw [hy] at hset;rw [hcs] at hci hset hbk;obtain ⟨Hci,Hset,Hcs,Hy,Hbit,Hkp⟩:=hqq6 hci hset hbk hy hbit hkp;have hgtI:¬(i:Int) > (i:Int):=oM;have hiI3:(i:Int) < 2:=oM;have hwi:IntKind.i64.wrap (i:Int)=(i:Int):=(by rw [IntKind.wrap_i64];omega);have htm:((k:Int)).tmod 64=(a0:Int):=(by rw [Int.tmod_eq_emod_of_nonneg oM];exact ha0);clear hbk hkp hci hset hy hcs h1 h0 hbit hgt;go_wp2_with fail;refine wp_region_any kR ?_;refine bH [38,39,40,41,42,43,44,45,46,47,48,49,50,51,37,52,53,54,55,56,7] (fun b=>b=gb) 20 [9,20] (fun w1=>Bk w1 gb 230 cs) (aEU gb (cs.setIfInBounds (1+i) (.int .u64 (y:Int)))) [is gb,is (k:Int),is (i:Int),is gb,is (k:Int),is (i:Int),is gb,is (.pointer (some ⟨gb,1,none⟩)),is (.pointer (some ⟨gb,1+i,none⟩)),is (.int .u64 (x:Int)),is (k:Int),is (a0:Int),is (.bool bb),is (.tuple #[.int .u64 (y:Int),.bool (x.testBit a0)]),is (.tuple #[.int .u64 (y:Int),.bool (x.testBit a0)]),is (.int .u64 (y:Int)),is (.bool (x.testBit a0)),is gb,is (.pointer (some ⟨gb,1,none⟩)),is (.pointer (some ⟨gb,1+i,none⟩)),cR,is (.bool (x.testBit a0))] _ _ rfl kR kR (Hcs.out) (fun w1 w2 h _ hg=>Bk.below h hg h.lt) (xZ _ _) tA0 ?_ ?_
    · refine aM ?_;refine pH3 0 (.pointer (some ⟨gb,0,none⟩)) ?_;refine pH3 1 (.int .i64 (k:Int)) ?_;refine pV3 1 39 ?_;refine pH3 0 (.pointer (some ⟨gb,0,none⟩)) ?_;refine pH3 1 (.int .i64 (k:Int)) ?_;refine pV3 4 42 ?_;refine pV3 3 41 ?_;refine pV3 6 44 ?_;refine pW3 7 45 5 43 ?_;refine sC3 (fun _ w5 _ hU _ _ _ hval _ _ _ hK=>?_) ?_
      · have hpre:=hU rfl;have e46:_=_:=hval 8 46 kR rfl;have c0:w5.cell? ⟨gb,1+i,none⟩=some (.int .u64 (x:Int)):=(hpre.cell (1+i)).trans Hci.out;go_simp;exact kq hK rfl
      refine pH3 1 (.int .i64 (k:Int)) ?_;refine pV3 10 48 ?_;refine pH3 7 (.bool bb) ?_;refine sC3 (fun _ w5 _ _ _ _ _ hval _ _ _ hK=>?_) ?_
      · have e47:_=_:=hval 9 47 kR rfl;have e49:_=_:=hval 11 49 kR rfl;have e50:_=_:=hval 12 50 kR rfl;go_simp;refine (aDM x a0 bb hx64 hp64 w5).mono ?_;rintro e w8 ⟨rfl,rfl⟩;rw [Hy.out];exact kq hK rfl
      refine pV3 13 51 ?_;refine pV3 14 37 ?_;refine pV3 14 37 ?_;refine pV3 0 38 ?_;refine pV3 17 54 ?_;refine pW3 18 55 2 40 ?_;refine sC3 (fun _ w5 _ hU _ _ _ hval _ _ _ hK=>?_) ?_
      · have hpre:=hU rfl;have e56:_=_:=hval 19 56 kR rfl;have e52:_=_:=hval 15 52 kR rfl;have c0:w5.cell? ⟨gb,1+i,none⟩=some (.int .u64 (x:Int)):=(hpre.cell (1+i)).trans Hci.out;have f0:=hpre.frozen (1+i);go_simp;exact hK (.bool true) _ (aW (Keep.setCell (F:=fun b=>b=gb) (Keep.refl _ _) (p:=⟨gb,1+i,none⟩) (.inl rfl) _)) (hpre.set (1+i) _)
      refine pV3 16 53 ?_;exact aC
    · intro ev w6 hS hval hall;replace hS:Keep (fun b=>b=gb) wr w6:=kD hS;have e7:ev (.tmp 7)=.bool (x.testBit a0):=hval 21 7 rfl;obtain ⟨vJ,pJ⟩:∃vJ0,(aEU gb (cs.setIfInBounds (1+i) (.int .u64 (y:Int)))) vJ0 w6:=hall 20 dC;simp only [aI,zq1,zq2,Act.put,zq3,zq4,zq5];rw [e7];clear hval hall;have hbk2:Bk w6 gb 230 _:=pJ;rw [Hset.out] at hbk2;have hkp2:=Hkp.out.trans hS;have c0:w6.cell? ⟨gb,0,none⟩=some (.int .i64 (n:Int)):=(hbk2.cell 0).trans rfl;have f0:=hbk2.frozen 0;have hgw:=hbk2.lt;obtain ⟨Hbk2,Hkp2⟩:=hqq2 hbk2 hkp2;have e1:IntKind.i64.wrap ((n:Int) - 1)=(n:Int) - 1:=(by rw [IntKind.wrap_i64];omega);rw [Hbit.out];clear hbk2 hkp2 pJ hS;go_wp2_with fail;go_ret2;exact ⟨rfl,Hfin.out _ (aAO Hbk2.out _),Keep.setCell (F:=fun b=>b=gb) Hkp2.out (p:=⟨gb,0,none⟩) (.inl rfl) _⟩
end Go.Proofs.YthldmddkfbijhaaGreatDoor
