/- Lemmas of the walk. Conditions: each its own. -/
import Derived.Test.YtnmapianpjamnaaGreatDoorPc3
import Derived.Test.YtnmapianpjamnaaGreatDoorPc4
import Derived.Test.YtnmapianpjamnaaGreatDoorProg
set_option linter.all false
set_option maxRecDepth 100000
set_option maxHeartbeats 4000000
open Go.Proofs.Tryz
namespace Go.Proofs.YtnmapianpjamnaaGreatDoor
section
namespace Tr
def cut (a:List Bool) (b c d:Nat):List Bool:=(a.take (a.length*d / b)).drop (a.length*c / b)
def bld (a:List Bool) (b:Nat):Nat->Nat->Nat->Tr
 | 0,f,t=>lf (cut a b f t)
 | u+1,f,t=>if t - f=1 then lf (cut a b f t) else nd (bld a b u f ((f+t)/ 2)) (bld a b u ((f+t)/ 2) t)
def cut_len {bs:List Bool} {a f b:Nat} (c:0 < a) (ht:b<=a):(cut bs a f b).length=bs.length*b / a - bs.length*f / a:=by
 unfold cut;rw [zAw,zAj,zCq];exact Nat.div_le_of_le_mul (by rw [Nat.mul_comm];exact Nat.mul_le_mul_right _ ht)
def aEo {a:List Bool} {b d c e:Nat} (j:d<=c) (k:c<=e):cut a b d c++cut a b c e=cut a b d e:=by
 unfold cut;have l:a.length*d / b<=a.length*c / b:=Nat.div_le_div_right (Nat.mul_le_mul_left _ j);have f:a.length*c / b<=a.length*e / b:=Nat.div_le_div_right (Nat.mul_le_mul_left _ k);generalize a.length*d / b=x at*
 generalize a.length*c / b=y at*
 generalize a.length*e / b=z at*
 have g:a.take y=(a.take z).take y:=by rw [List.take_take,zCq f]
 rw [g,List.drop_take];have i:(a.take z).drop y=((a.take z).drop x).drop (y - x):=by rw [List.drop_drop];congr 1;omega
 rw [i,zAu]
def bld_bits (d:List Bool) (e:Nat):∀c a b,a < b->b - a<=c+1->(bld d e c a b).bits=cut d e a b
 | 0,a,b,_,_=>rfl
 | c+1,a,b,h,hu=>by
   unfold bld;split;rfl
   · show (bld d e c a ((a+b)/ 2)).bits++(bld d e c ((a+b)/ 2) b).bits=_;rw [bld_bits d e c _ _ oM oM,bld_bits d e c _ _ oM oM,aEo oM oM]
def Hn:Nat->Nat->Nat
 | 0,_=>0
 | u+1,d=>if d=1 then 0 else max (Hn u (d / 2)) (Hn u (d - d / 2))+1
def oC (d:List Bool) (e:Nat):∀c a b,a < b->(bld d e c a b).ht=Hn c (b - a)
 | 0,a,b,_=>rfl
 | c+1,a,b,h=>by
   unfold bld Hn;split;rfl
   · show max (bld d e c a ((a+b)/ 2)).ht (bld d e c ((a+b)/ 2) b).ht+1=_;rw [oC d e c _ _ oM,oC d e c _ _ oM];have f:(a+b)/ 2 - a=(b - a)/ 2:=oM;have g:b -(a+b)/ 2=b - a -(b - a)/ 2:=oM;rw [f,g]
def aEw:∀b:Fin 10,∀a:Fin 12,2<=a.val->a.val<=b.val+2->Hn b.val (a.val / 2)<=Hn b.val (a.val - a.val / 2)+1/\Hn b.val (a.val - a.val / 2)<=Hn b.val (a.val / 2)+1:=dC
def leaf_len {b a f:Nat} (e:0 < a) (i:b<=128*a):b*(f+1)/ a - b*f / a<=128:=by
 have d:b*(f+1)<=b*f+128*a:=by rw [Nat.mul_add,zBl];omega
 have g:(b*f+128*a)/ a=b*f / a+128:=Nat.add_mul_div_right _ _ e;have:=Nat.div_le_div_right (c:=a) d;omega
def tO {b a f:Nat} (i:1 < a) (g:128*(a - 1) < b):64<=b*(f+1)/ a - b*f / a:=by
 have d:b*f+64*a<=b*(f+1):=by rw [Nat.mul_add,zBl];omega
 have e:(b*f+64*a)/ a=b*f / a+64:=Nat.add_mul_div_right _ _ oM;have:=Nat.div_le_div_right (c:=a) d;omega
def qU {d:List Bool} {b:Nat} (j:1 < b) (g:d.length<=128*b) (i:128*(b - 1) < d.length):∀e a c,a < c->c - a<=e+1->c<=b->(bld d b e a c).Full
 | 0,a,c,h,hu,ht=>by have k:c=a+1:=oM;subst k;have l:=leaf_len (f:=a) oM g;have m:=tO (f:=a) j i;show 32<=(cut d b a (a+1)).length/\(cut d b a (a+1)).length<=128;rw [cut_len oM ht];omega
 | e+1,a,c,h,hu,ht=>by unfold bld;split;have k:c=a+1:=oM;subst k;have l:=leaf_len (f:=a) oM g;have m:=tO (f:=a) j i;show 32<=(cut d b a (a+1)).length/\(cut d b a (a+1)).length<=128;rw [cut_len oM ht];omega;exact ⟨qU j g i e _ _ oM oM oM,qU j g i e _ _ oM oM ht⟩
def vQ {bs:List Bool} {c:Nat}:∀d a b,a < b->b - a<=d+1->d < 11->(bld bs c d a b).Avl
 | 0,a,b,h,hu,ht=>trivial
 | d+1,a,b,h,hu,ht=>by
   unfold bld;split
   · trivial
   have:=aEw ⟨d,by omega⟩ ⟨b - a,by omega⟩ (show 2<=b - a by omega) (show b - a<=d+2 by omega);refine ⟨vQ d _ _ oM oM oM,vQ d _ _ oM oM oM,?_,?_⟩;rw [oC _ _ _ _ _ oM,oC _ _ _ _ _ oM];have e:(a+b)/ 2 - a=(b - a)/ 2:=oM;have f:b -(a+b)/ 2=b - a -(b - a)/ 2:=oM;rw [e,f];exact this.1;rw [oC _ _ _ _ _ oM,oC _ _ _ _ _ oM];have e:(a+b)/ 2 - a=(b - a)/ 2:=oM;have f:b -(a+b)/ 2=b - a -(b - a)/ 2:=oM;rw [e,f];exact this.2
def bld_lv (d:List Bool) (e:Nat):∀c a b,a < b->b - a<=c+1->(bld d e c a b).lv=b - a
 | 0,a,b,h,hu=>by show 1=b - a;omega
 | c+1,a,b,h,hu=>by unfold bld;split;show 1=b - a;omega;show (bld d e c a ((a+b)/ 2)).lv+(bld d e c ((a+b)/ 2) b).lv=_;rw [bld_lv d e c _ _ oM oM,bld_lv d e c _ _ oM oM];omega
def lvs (a:Nat):Nat:=(a+127)/ 128
def mk (a:List Bool):Tr:=bld a (lvs a.length) (lvs a.length - 1) 0 (lvs a.length)
def aBn (b:List Bool) {a:Nat} (c:0 < a):cut b a 0 a=b:=by
 unfold cut;rw [Nat.mul_zero,Nat.zero_div,List.drop_zero,Nat.mul_div_cancel _ c,List.take_length]
def mk_bits {a:List Bool} (b:0 < a.length):(mk a).bits=a:=by
 unfold mk;have:0 < lvs a.length:=by unfold lvs;omega
 rw [bld_bits _ _ _ _ _ this oM,aBn _ this]
def mk_ok {a:List Bool} (j:0 < a.length) (p:a.length<=1100):(mk a).Ok:=by
 have f:0 < lvs a.length:=by unfold lvs;omega
 by_cases g:lvs a.length=1;have i:mk a=lf a:=(by unfold mk;rw [g];show lf (cut a 1 0 1)=lf a;rw [aBn _ oM]);rw [i];have:(a.length+127)/ 128=1:=g;exact ⟨j,by omega⟩
 · have k:1 < lvs a.length:=oM;have l:a.length<=128*lvs a.length:=(by unfold lvs;omega);have m:128*(lvs a.length - 1) < a.length:=(by unfold lvs;omega);have o:lvs a.length<=9:=(by unfold lvs;omega);have e:=qU k l m (lvs a.length - 1) 0 (lvs a.length) f oM nL;have d:=vQ (bs:=a) (c:=lvs a.length) (lvs a.length - 1) 0 (lvs a.length) f oM oM;have b:=bld_lv a (lvs a.length) (lvs a.length - 1) 0 (lvs a.length) f oM;show (bld a (lvs a.length) (lvs a.length - 1) 0 (lvs a.length)).Ok;revert e d b;cases bld a (lvs a.length) (lvs a.length - 1) 0 (lvs a.length) with
   | lf n=>intro _ _ b;exact absurd b (by show ¬1=_;omega)
   | nd b q=>intro e d _;exact ⟨d,e⟩
end Tr
end
section
open Go.RowKit
def aAO (b:Nat) (a:Array Value):Value->World->Prop:=fun _ c=>Bk c b 240 a
def qQ (c:Nat) (b:Array Value):Stb (aAO c b):=fun _ _ _ a d=>Bk.below a d (Bk.lt a)
def kA (a:Int) (b c:Nat):Array Value:=#[.int .i64 a,.int .u64 (b:Int),.int .u64 (c:Int)]
def qT (d:Int) (b c a:Nat) (e:a < 2):(kA d b c)[1+a]?=some (.int .u64 (((if a=0 then b else c):Nat):Int)):=by
 obtain rfl | rfl:a=0∨a=1:=oM;rfl;rfl
def qS (c:Int) (d e b a:Nat) (f:a < 2):(kA c d e).setIfInBounds (1+a) (.int .u64 (b:Int))=kA c (if a=0 then b else d) (if a=0 then e else b):=by
 obtain rfl | rfl:a=0∨a=1:=oM;rfl;rfl
def tU {e:World} {a:Nat} {g:Int} {c d:Nat} (f:Bk e a 240 (kA g c d)) (b:Int):Bk (e.setCell a (.int .i64 b)) a 240 (kA b c d):=f.set 0 _
structure InsI (l l':List Bool) (k:Nat) (b:Bool) (i a:Nat) (bb:Bool) (u0 u1:Nat):Prop where
 at0:i=0->k < 64/\a=k/\bb=b/\u0=w0 l/\u1=w1 l
 at1:i=1->a < 64/\u0=w0 l'/\mJ u1 a bb=w1 l'/\u1 < 18446744073709551616
 at2:i=2->u0=w0 l'/\u1=w1 l'
 le:i<=2
def fX (b:Nat) (d:List Bool) (e:Nat) (c:Bool) (t:World) (a3:Bk t b 240 (cC d)) (aC:d.length<=127) (H:e<=d.length):
 Calls prog 234 #[b,(e:Int),.bool c] t fun n ab=>n=.returned (.int .i64 0)/\Bk ab b 240 (cC (aI d e c))/\Keep (fun c=>c=b) t ab:=by
 obtain ⟨k,U⟩:=eqx d.length;have a7:(aI d e c).length=k+1:=by rw [bB _ _ H,U]
 have E:Bk t b 240 (kA (k:Int) (w0 d) (w1 d)):=by rw [<-U];exact a3
 have a5:∀M,Bk M b 240 (kA ((k+1:Nat):Int) (w0 (aI d e c)) (w1 (aI d e c)))->Bk M b 240 (cC (aI d e c)):=fun M r=>by unfold cC;rw [a7];exact r
 have Z:=jN d;have P:=jK d oM;have aE:∃K z:Nat,(e:Int)/ 64=(K:Int)/\(e:Int)% 64=(z:Int)/\InsI d (aI d e c) e c K z c (w0 d) (w1 d):=by by_cases an:e < 64;exact ⟨0,e,by omega,by omega,fun _=>⟨an,rfl,rfl,rfl,rfl⟩,fun n=>by omega,fun n=>by omega,by omega⟩;obtain ⟨O,C⟩:=aES d e c H oM oM;exact ⟨1,e - 64,by omega,by omega,fun n=>by omega,fun _=>⟨by omega,O.symm,C.symm,P⟩,fun n=>by omega,by omega⟩
 have a8:∀a o i f g,a < 2->InsI d (aI d e c) e c a o i f g->o < 64/\(if a=0 then f else g) < 18446744073709551616/\InsI d (aI d e c) e c (a+1) 0 ((if a=0 then f else g).testBit 63) (if a=0 then mJ f o i else f) (if a=0 then g else mJ g o i):=by intro a o i f g aR r;obtain rfl | rfl:a=0∨a=1:=oM;obtain ⟨B,rfl,rfl,rfl,rfl⟩:=r.at0 rfl;obtain ⟨O,C⟩:=aER d o i H oM B;have ay:(w0 d).testBit 63=d.getD 63 false:=(by rw [fW];simp);simp only [if_true,ay];exact ⟨B,Z,fun n=>by omega,fun _=>⟨by omega,O.symm,C.symm,P⟩,fun n=>by omega,by omega⟩;obtain ⟨B,ao,ap,aq⟩:=r.at1 rfl;simp only [show ¬((1:Nat)=0) by omega,if_false];exact ⟨B,aq,fun n=>by omega,fun n=>by omega,fun _=>⟨ao,ap⟩,by omega⟩
 obtain ⟨K,z,aS,aO,a0⟩:=aE;have aB:¬((e:Int) > (k:Int)):=oM;have aA:decide ((e:Int) < 0)=false:=by simp
 have aU:((k:Int)==128)=false:=by rw [zCb];omega
 have A:t.cell? b=some (.int .i64 (k:Int)):=(E.cell 0).trans rfl;have aP:=E.lt;have aV:k<=127:=oM;obtain ⟨ae,ai,al,ac⟩:=hqq4 E a5 a8 a0;clear a3 E a5 Z P a8 a0 a7 U aC H;go_enter func234,ntmps234;go_wp2_with fail;clear A aA aB;go_loopw [2,7,8] (fun j l X wr=>∃(a o:Nat) (i:Bool) (f g:Nat),j=.bool i/\l=.int .i64 (o:Int)/\X=.int .i64 (a:Int)/\InsI d (aI d e c) e c a o i f g/\Bk wr b 240 (kA (k:Int) f g)/\Keep (fun c=>c=b) t wr) (fun _ _ X _=>2 -(intOf X).toNat)
 case atStart=>exact ⟨K,z,c,_,_,rfl,rfl,rfl,ac.out,ae.out,Keep.refl _ _⟩
 case round=>
  obtain ⟨a,s,i,f,g,rfl,rfl,rfl,u,q,I⟩:=hrel;by_cases T:a < 2
  · obtain ⟨aD,a9,Q⟩:=al.out a s i f g T u;have G:=qT (k:Int) f g a T;have V:=fun l=>qS (k:Int) f g l a T;obtain ⟨j,x⟩:∃j,(if a=0 then f else g)=j:=⟨_,rfl⟩;obtain ⟨l,J⟩:=eqx (mJ j s i);obtain ⟨N,a4⟩:=eqx (kA (k:Int) f g)
    have a1:InsI d (aI d e c) e c (a+1) 0 (j.testBit 63) (if a=0 then l else f) (if a=0 then g else l):=by
        have aw:(if a=0 then mJ f s i else f)=if a=0 then l else f:=by
         split
         · rw [<-J,<-x,zBx (by assumption)]
         rfl
        have ax:(if a=0 then g else mJ g s i)=if a=0 then g else l:=by
         split;rfl
         · rw [<-J,<-x,zBw (by assumption)]
        rw [x,aw,ax] at Q;exact Q
    rw [x] at G a9;rw [a4] at G V q;have aT:(a:Int) < 2:=oM;obtain ⟨Y,ak,ah,am,ad,L⟩:=hqq6 G V q J a1 I;clear u Q q I G V x J a4 a1;go_wp2_with fail;refine wp_region_any kR ?_;refine bL [38,39,40,41,42,43,44,45,46,47,48,37,49,50,51,52,53,2] (fun c=>c=b) 17 [7,17] (fun w1=>Bk w1 b 240 N) (aAO b (N.setIfInBounds (1+a) (.int .u64 (l:Int)))) [is b,is (a:Int),is b,is (a:Int),is b,is (.pointer (some ⟨b,1,none⟩)),is (.pointer (some ⟨b,1+a,none⟩)),is (.int .u64 (j:Int)),is (s:Int),is (.bool i),is (.tuple #[.int .u64 (l:Int),.bool (j.testBit 63)]),is (.tuple #[.int .u64 (l:Int),.bool (j.testBit 63)]),is (.int .u64 (l:Int)),is (.bool (j.testBit 63)),is b,is (.pointer (some ⟨b,1,none⟩)),is (.pointer (some ⟨b,1+a,none⟩)),cR,is (.bool (j.testBit 63))] _ _ rfl kR kR (ah.out) (fun w1 aY r _ az=>Bk.below r az r.lt) (qQ _ _) tA0 ?_ ?_
    · refine aZ ?_;refine pH3 0 (.pointer (some b)) ?_;refine pH3 8 (.int .i64 (a:Int)) ?_;refine pH3 0 (.pointer (some b)) ?_;refine pH3 8 (.int .i64 (a:Int)) ?_;refine pV3 2 40 ?_;refine pV3 4 42 ?_;refine pW3 5 43 3 41 ?_;refine sC3 (fun _ y _ R _ _ _ m _ _ _ v=>?_) ?_
      · have w:=R rfl;have aG:_=_:=m 6 44 kR rfl;have A:y.cell? ⟨b,1+a,none⟩=some (.int .u64 (j:Int)):=(w.cell (1+a)).trans Y.out;go_simp;exact kq v rfl
      refine pH3 7 (.int .i64 (s:Int)) ?_;refine pH3 2 (.bool i) ?_;refine sC3 (fun _ y _ _ _ _ _ m _ _ _ v=>?_) ?_
      · have aJ:_=_:=m 7 45 kR rfl;have aK:_=_:=m 8 46 kR rfl;have aL:_=_:=m 9 47 kR rfl;go_simp;refine (aDO j s i a9 aD y).mono ?_;rintro n b0 ⟨rfl,rfl⟩;rw [am.out];exact kq v rfl
      refine pV3 10 48 ?_;refine pV3 11 37 ?_;refine pV3 11 37 ?_;refine pV3 0 38 ?_;refine pV3 14 51 ?_;refine pW3 15 52 1 39 ?_;refine sC3 (fun _ y _ R _ _ _ m _ _ _ v=>?_) ?_
      · have w:=R rfl;have aN:_=_:=m 16 53 kR rfl;have aM:_=_:=m 12 49 kR rfl;have A:y.cell? ⟨b,1+a,none⟩=some (.int .u64 (j:Int)):=(w.cell (1+a)).trans Y.out;have av:=w.frozen (1+a);go_simp;exact v (.bool true) _ (aW (Keep.setCell (F:=fun c=>c=b) (Keep.refl _ _) (p:=⟨b,1+a,none⟩) (.inl rfl) _)) (w.set (1+a) _)
      refine pV3 13 50 ?_;exact aH
    · intro au W D m a2;replace D:Keep (fun c=>c=b) wr W:=kD D;have ar:au (.tmp 2)=.bool (j.testBit 63):=m 18 2 rfl;obtain ⟨aX,aa⟩:∃aF,(aAO b (N.setIfInBounds (1+a) (.int .u64 (l:Int)))) aF W:=a2 17 dC;simp only [zqq];rw [ar];clear m a2;have S:Bk W b 240 _:=aa;rw [ak.out] at S;have a6:=L.out.trans D;obtain ⟨ag,aj⟩:=hqq2 S a6;clear S a6 aa D;go_wp2_with fail;go_roundw
      case rel=>exact ⟨a+1,0,_,_,_,rfl,rfl,by go_num,ad.out,ag.out,aj.out⟩
      case measure=>simp [intOf];omega
  · obtain rfl:a=2:=(by have:=u.le;omega);obtain ⟨rfl,rfl⟩:=u.at2 rfl;have A:wr.cell? b=some (.int .i64 (k:Int)):=(q.cell 0).trans rfl;have av:=q.frozen 0;have aQ:=q.lt;obtain ⟨af,L⟩:=hqq2 q I;clear q I u;have C:IntKind.i64.wrap ((k:Int)+1)=((k+1:Nat):Int):=(by rw [IntKind.wrap_i64];omega);go_wp2_with fail;go_ret;exact ⟨rfl,ai.out _ (tU af.out _),Keep.setCell (F:=fun c=>c=b) L.out (p:=b) (.inl rfl) _⟩
def oZ (b:Nat) (c:List Bool) (d:Nat) (G:World) (aa:Bk G b 240 (cC c)) (T:c.length<=128) (O:d < c.length):
 Calls prog 285 #[b,(d:Int)] G fun y aD=>y=.returned (.tuple #[.bool (c.getD d false),.int .i64 0])/\Bk aD b 240 (cC (aC c d))/\Keep (fun i=>i=b) G aD:=by
 have au:=nN b c d G aa O;obtain ⟨j,ae⟩:=eqx c.length;have aV:(aC c d).length+1=j:=by rw [bF _ O,ae]
 have ab:Bk G b 240 (kA (j:Int) (w0 c) (w1 c)):=by rw [<-ae];exact aa
 have aq:∀a3,Bk a3 b 240 (kA ((j:Int) - 1) (w0 (aC c d)) (w1 (aC c d)))->Bk a3 b 240 (cC (aC c d)):=fun a3 C=>by unfold cC;rw [show (((aC c d).length:Nat):Int)=(j:Int) - 1 by omega];exact C
 have an:=jN c;have ao:=jK c T;obtain ⟨t,f,bj,aN,bl,aO,aU⟩:∃t f:Nat,(d:Int)/ 64=(t:Int)/\(d:Int)% 64=(f:Int)/\t < 2/\f < 64/\d=64*t+f:=⟨d / 64,d % 64,by omega,by omega,by omega,by omega,by omega⟩;have aA:t=0->w0 (aC c d)=jX (w0 c) f ((w1 c).testBit 0)/\w1 (aC c d)=jX (w1 c) 0 false/\(w0 c).testBit f=c.getD d false:=fun y=>by have w:d=f:=oM;have m:=aE4 c d O T oM;rw [eV,zBq,<-w];refine ⟨m.1,m.2,?_⟩;rw [fW,zBz oM,Bool.true_and]
 have av:t=1->w0 (aC c d)=w0 c/\w1 (aC c d)=jX (w1 c) f false/\(w1 c).testBit f=c.getD d false:=fun y=>by have w:d - 64=f:=oM;have m:=cut_hi c d O T oM;rw [w] at m;refine ⟨m.1,m.2,?_⟩;rw [eV];congr 1;omega
 have aR:=ab.lt;have bn:j<=128:=oM;have aP:0 < jX 0 0 true:=dC;obtain ⟨ak,aG,aK,aI,aE,aj⟩:=hqq6 ab aq aA av an ao;clear aa ab aq an ao aA av aV ae T O aP aU;go_enter func285,ntmps285;go_wp2_with fail;refine au.mono ?_;rintro y b3 ⟨rfl,ac⟩;have ap:=ak.out.below ac aR;have az:Keep (fun i=>i=b) G b3:=Keep.of_below ac;obtain ⟨aF,aJ⟩:=hqq2 ap az;clear au ac ap az ak;go_wp2_with fail;go_loopw [7,8] (fun e ai wr=>∃(a u:Nat) (v:Bool),e=.bool v/\ai=.int .i64 (a:Int)/\t<=a/\a < 2/\(a=1->v=false/\u=w1 c)/\(a=0->v=(w1 c).testBit 0/\u=jX (w1 c) 0 false)/\Bk wr b 240 (kA (j:Int) (w0 c) u)/\Keep (fun i=>i=b) G wr) (fun _ ai _=>(intOf ai).toNat)
 case atStart=>exact ⟨1,w1 c,false,rfl,rfl,by omega,by omega,fun _=>⟨rfl,rfl⟩,fun y=>by omega,aF.out,aJ.out⟩
 case round=>
  obtain ⟨a,u,v,rfl,rfl,bk,ax,m,a9,H,S⟩:=hrel;by_cases ar:t < a
  · obtain rfl:a=1:=oM;obtain ⟨rfl,rfl⟩:=m rfl;obtain rfl:t=0:=oM;obtain ⟨a,aw⟩:∃a,a=1:=⟨1,rfl⟩;have l:=qT (j:Int) (w0 c) (w1 c) a oM;have q:=fun k=>qS (j:Int) (w0 c) (w1 c) k a oM;rw [zBw oM] at l;obtain ⟨e,U⟩:=eqx (w1 c);obtain ⟨k,E⟩:=eqx (jX e 0 false);obtain ⟨B,N⟩:=eqx (kA (j:Int) (w0 c) (w1 c));have V:=aj.out;rw [N] at l q H;rw [U] at l V;have aB:jX (w1 c) 0 false=k:=(by rw [U];exact E);obtain ⟨I,af⟩:=eqx (e.testBit 0);have M:(w1 c).testBit 0=I:=(by rw [U];exact af);have aL:=lhd af;have aT:(a:Int) < 2:=oM;obtain ⟨J,a1,Y,a2,aM,W,Z⟩:=hqq7 l q H E aB M S;have bm:a < 2:=oM;have ay:¬a=0:=oM;have aS:¬(a:Int)<=0:=oM;rw [show ((1:Nat):Int)=(a:Int) by omega];have al:=lhd aw;have bf:¬(a:Int)<=0:=aS;have bg:(a:Int) > 0:=oM;clear H S l q U E aB N m a9 M aw ar af;go_wp2_with fail;refine wp_region_any kR ?_;refine bL [22,23,24,25,26,27,28,29,30,31,21,32,33,34,35,36,7] (fun i=>i=b) 16 [7,16] (fun w1=>Bk w1 b 240 B) (aAO b (B.setIfInBounds (1+a) (.int .u64 (k:Int)))) [is b,is (a:Int),is b,is (a:Int),is b,is (.pointer (some ⟨b,1,none⟩)),is (.pointer (some ⟨b,1+a,none⟩)),is (.int .u64 (e:Int)),is (.bool false),is (.tuple #[.int .u64 (k:Int),.bool I]),is (.tuple #[.int .u64 (k:Int),.bool I]),is (.int .u64 (k:Int)),is (.bool I),is b,is (.pointer (some ⟨b,1,none⟩)),is (.pointer (some ⟨b,1+a,none⟩)),cR,is (.bool I)] _ _ rfl kR kR (Y.out) (fun w1 b1 C _ ad=>Bk.below C ad C.lt) (qQ _ _) tA0 ?_ ?_
    · refine aZ ?_;refine pH3 0 (.pointer (some b)) ?_;refine pH3 8 (.int .i64 (a:Int)) ?_;refine pH3 0 (.pointer (some b)) ?_;refine pH3 8 (.int .i64 (a:Int)) ?_;refine pV3 2 24 ?_;refine pV3 4 26 ?_;refine pW3 5 27 3 25 ?_;refine sC3 (fun _ r _ D _ _ _ g _ _ _ n=>?_) ?_
      · have o:=D rfl;have b4:_=_:=g 6 28 kR rfl;have R:r.cell? ⟨b,1+a,none⟩=some (.int .u64 (e:Int)):=(o.cell (1+a)).trans J.out;go_simp;exact kq n rfl
      refine pH3 7 (.bool false) ?_;refine sC3 (fun _ r _ _ _ _ _ g _ _ _ n=>?_) ?_
      · have b5:_=_:=g 7 29 kR rfl;have b6:_=_:=g 8 30 kR rfl;go_simp;refine (zP e 0 false V oM r).mono ?_;rintro y b2 ⟨rfl,rfl⟩;rw [a2.out,aL.out];exact kq n rfl
      refine pV3 9 31 ?_;refine pV3 10 21 ?_;refine pV3 10 21 ?_;refine pV3 0 22 ?_;refine pV3 13 34 ?_;refine pW3 14 35 1 23 ?_;refine sC3 (fun _ r _ D _ _ _ g _ _ _ n=>?_) ?_
      · have o:=D rfl;have b8:_=_:=g 15 36 kR rfl;have b7:_=_:=g 11 32 kR rfl;have R:r.cell? ⟨b,1+a,none⟩=some (.int .u64 (e:Int)):=(o.cell (1+a)).trans J.out;have am:=o.frozen (1+a);go_simp;exact n (.bool true) _ (aW (Keep.setCell (F:=fun i=>i=b) (Keep.refl _ _) (p:=⟨b,1+a,none⟩) (.inl rfl) _)) (o.set (1+a) _)
      refine pV3 12 33 ?_;exact aH
    · intro a8 A x g L;replace x:Keep (fun i=>i=b) wr A:=kD x;have a7:a8 (.tmp 7)=.bool I:=g 17 7 rfl;obtain ⟨b0,Q⟩:∃ah,(aAO b (B.setIfInBounds (1+a) (.int .u64 (k:Int)))) ah A:=L 16 dC;simp only [zqq];rw [a7];clear g L;have s:Bk A b 240 _:=Q;rw [a1.out,zBw ay,zBw ay] at s;have P:=Z.out.trans x;obtain ⟨X,a0⟩:=hqq2 s P;have K:IntKind.i64.wrap ((a:Int) - 1)=((0:Nat):Int):=(by have:=al.out;rw [IntKind.wrap_i64];omega);clear s P Q x;go_wp2_with fail;go_roundw
      case rel=>exact ⟨0,_,_,rfl,rfl,by omega,by omega,fun y=>by omega,fun _=>⟨W.out.symm,aM.out.symm⟩,X.out,a0.out⟩
      case measure=>have:=al.out;simp [intOf];omega
  · obtain rfl:a=t:=oM
    have aQ:∃e:Nat,(kA (j:Int) (w0 c) u)[1+a]?=some (.int .u64 (e:Int))/\e < 18446744073709551616/\(kA (j:Int) (w0 c) u).setIfInBounds (1+a) (.int .u64 ((jX e f v:Nat):Int))=kA (j:Int) (w0 (aC c d)) (w1 (aC c d))/\e.testBit f=c.getD d false:=by
        have l:=qT (j:Int) (w0 c) u a ax;have q:=fun k=>qS (j:Int) (w0 c) u k a ax;obtain z | z:a=0∨a=1:=oM
        · obtain ⟨K,w⟩:=a9 z;obtain ⟨a4,a5,a6⟩:=aK.out z;rw [zBx z] at l;refine ⟨w0 c,l,aE.out,?_,a6⟩;rw [q,zBx z,zBx z,a4,a5,K,w]
        · obtain ⟨K,w⟩:=m z;obtain ⟨a4,a5,a6⟩:=aI.out z;have ag:¬a=0:=oM;rw [zBw ag] at l;refine ⟨u,l,by rw [w];exact aj.out,?_,by rw [w];exact a6⟩;rw [q,zBw ag,zBw ag,a4,a5,K,w]
    obtain ⟨e,l,V,q,M⟩:=aQ;obtain ⟨bq,aY⟩:=eqx f;subst aY;have aX:=aO;obtain ⟨k,E⟩:=eqx (jX e f v);obtain ⟨B,N⟩:=eqx (kA (j:Int) (w0 c) u);rw [E] at q;rw [N] at l q H;obtain ⟨J,a1,Y,a2,W,Z⟩:=hqq6 l q H E M S;have bh:¬(a:Int) > (a:Int):=oM;have aT:(a:Int) < 2:=oM;have bp:IntKind.i64.wrap (a:Int)=(a:Int):=(by rw [IntKind.wrap_i64];omega);have bo:((d:Int)).tmod 64=(f:Int):=(by rw [Int.tmod_eq_emod_of_nonneg oM];exact aN);clear H S l q E N m a9 M ar;go_wp2_with fail;refine wp_region_any kR ?_;refine bL [38,39,40,41,42,43,44,45,46,47,48,49,50,51,37,52,53,54,55,56,7] (fun i=>i=b) 20 [9,20] (fun w1=>Bk w1 b 240 B) (aAO b (B.setIfInBounds (1+a) (.int .u64 (k:Int)))) [is b,is (d:Int),is (a:Int),is b,is (d:Int),is (a:Int),is b,is (.pointer (some ⟨b,1,none⟩)),is (.pointer (some ⟨b,1+a,none⟩)),is (.int .u64 (e:Int)),is (d:Int),is (f:Int),is (.bool v),is (.tuple #[.int .u64 (k:Int),.bool (e.testBit f)]),is (.tuple #[.int .u64 (k:Int),.bool (e.testBit f)]),is (.int .u64 (k:Int)),is (.bool (e.testBit f)),is b,is (.pointer (some ⟨b,1,none⟩)),is (.pointer (some ⟨b,1+a,none⟩)),cR,is (.bool (e.testBit f))] _ _ rfl kR kR (Y.out) (fun w1 b1 C _ ad=>Bk.below C ad C.lt) (qQ _ _) tA0 ?_ ?_
    · refine aZ ?_;refine pH3 0 (.pointer (some b)) ?_;refine pH3 1 (.int .i64 (d:Int)) ?_;refine pV3 1 39 ?_;refine pH3 0 (.pointer (some b)) ?_;refine pH3 1 (.int .i64 (d:Int)) ?_;refine pV3 4 42 ?_;refine pV3 3 41 ?_;refine pV3 6 44 ?_;refine pW3 7 45 5 43 ?_;refine sC3 (fun _ r _ D _ _ _ g _ _ _ n=>?_) ?_
      · have o:=D rfl;have b9:_=_:=g 8 46 kR rfl;have R:r.cell? ⟨b,1+a,none⟩=some (.int .u64 (e:Int)):=(o.cell (1+a)).trans J.out;go_simp;exact kq n rfl
      refine pH3 1 (.int .i64 (d:Int)) ?_;refine pV3 10 48 ?_;refine pH3 7 (.bool v) ?_;refine sC3 (fun _ r _ _ _ _ _ g _ _ _ n=>?_) ?_
      · have ba:_=_:=g 9 47 kR rfl;have bb:_=_:=g 11 49 kR rfl;have bc:_=_:=g 12 50 kR rfl;go_simp;refine (zP e f v V aX r).mono ?_;rintro y b2 ⟨rfl,rfl⟩;rw [a2.out];exact kq n rfl
      refine pV3 13 51 ?_;refine pV3 14 37 ?_;refine pV3 14 37 ?_;refine pV3 0 38 ?_;refine pV3 17 54 ?_;refine pW3 18 55 2 40 ?_;refine sC3 (fun _ r _ D _ _ _ g _ _ _ n=>?_) ?_
      · have o:=D rfl;have be:_=_:=g 19 56 kR rfl;have bd:_=_:=g 15 52 kR rfl;have R:r.cell? ⟨b,1+a,none⟩=some (.int .u64 (e:Int)):=(o.cell (1+a)).trans J.out;have am:=o.frozen (1+a);go_simp;exact n (.bool true) _ (aW (Keep.setCell (F:=fun i=>i=b) (Keep.refl _ _) (p:=⟨b,1+a,none⟩) (.inl rfl) _)) (o.set (1+a) _)
      refine pV3 16 53 ?_;exact aH
    · intro a8 A x g L;replace x:Keep (fun i=>i=b) wr A:=kD x;have a7:a8 (.tmp 7)=.bool (e.testBit f):=g 21 7 rfl;obtain ⟨b0,Q⟩:∃ah,(aAO b (B.setIfInBounds (1+a) (.int .u64 (k:Int)))) ah A:=L 20 dC;simp only [zqq];rw [a7];clear g L;have s:Bk A b 240 _:=Q;rw [a1.out] at s;have P:=Z.out.trans x;have R:A.cell? b=some (.int .i64 (j:Int)):=(s.cell 0).trans rfl;have am:=s.frozen 0;have bi:=s.lt;obtain ⟨X,a0⟩:=hqq2 s P;have K:IntKind.i64.wrap ((j:Int) - 1)=(j:Int) - 1:=(by rw [IntKind.wrap_i64];omega);rw [W.out];clear s P Q x;go_wp2_with fail;go_ret2;exact ⟨rfl,aG.out _ (tU X.out _),Keep.setCell (F:=fun i=>i=b) a0.out (p:=b) (.inl rfl) _⟩
end
end Go.Proofs.YtnmapianpjamnaaGreatDoor
