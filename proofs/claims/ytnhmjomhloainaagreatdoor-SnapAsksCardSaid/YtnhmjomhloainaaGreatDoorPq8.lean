/- Parts of the walk, joined from several texts. Conditions: what each lemma says. -/
import Derived.Test.YtnhmjomhloainaaGreatDoorPq7
import Derived.Test.YtnhmjomhloainaaGreatDoorSht
import Derived.Laws.Bits64
import Derived.Test.YtnhmjomhloainaaGreatDoorRows
import Derived.LaidMore
import Derived.Lib.LaidTab
import Derived.ProofKit
import Derived.Stop.Joined
import Derived.SevenTiedAt
set_option linter.all false
set_option maxRecDepth 100000
set_option maxHeartbeats 2000000
namespace Go.Proofs.YtnhmjomhloainaaGreatDoor
open Go.RowKit
def TabW (w:World):Prop:=TabAt 1 Lib.deBruijn64tab w
theorem TabW.below {B:Nat} {w w':World} (h:TabW w) (k:Below B w w') (hB:1 < B):TabW w':=fun j hj=>(k.cell (p:=⟨1,j,none⟩) hB).trans (h j hj)
theorem TabW.pos {w:World} (h:TabW w):1 < w.heap.size:=by
 have h0:=h 0 dC;rcases zBe 1 w.heap.size with e | e;exact e
 · exfalso;have:w.heap[1]?=none:=Array.getElem?_eq_none e;simp [World.cell?,this] at h0
theorem aIF (x p:Nat) (hx:x < 18446744073709551616) (hp:Lib.ctz 64 x=p) (w:World) (hT:TabW w):
 Calls Tryz.prog 301 #[.int .u64 (x:Int)] w fun e w'=>e=.returned (.int .i64 (p:Int))/\w'=w:=by
 have:=Any7.bits_TrailingZeros64 shTz x hx w (fun _=>hT);rw [hp] at this;exact this
theorem gI (x p j:Nat) (hx:x < 18446744073709551616) (hp:x.testBit p=true) (hj:bF x p=j) (hj64:j < bF x 64) (w:World) (hT:TabW w) (hw:1 < w.heap.size):
 Calls Tryz.prog 295 #[.int .u64 (x:Int),.int .i64 (j:Int)] w fun e w'=>e=.returned (.int .i64 (p:Int))/\Below w.heap.size w w':=by
 have hctz:=aHP (x:=x) hx hp hj;have hpos:=fun i hi=>aD2 (x:=x) hx hp (i:=i) hi;rw [hj] at hpos;have hle:=aDj x;have h64:=nE x 64;obtain ⟨Hctz,Hpos,Hle,Hj64,HT⟩:=hqq5 hctz hpos hle hj64 hT;clear hctz hpos hle hp hj hT;have g0:decide ((j:Int) < 0)=false:=by simp
 go_enter Tryz.func295,Tryz.ntmps295;go_wp2_with fail;refine (gS _ 1 1 _ [x] _ (Rd.made _ _ 1 1 _ rfl) (by simpa using hx) oM).mono ?_;rintro e W ⟨rfl,hW⟩;have hbW:Below w.heap.size w W:=by first |(rw [hW];exact bR.alloc nL _)|(rw [<-hW];exact bR.alloc nL _)
 have hsum:(([x].map fun x=>bF x 64).sum)=bF x 64:=by simp
 rw [hsum];obtain ⟨o,ho⟩:=eqx (bF x 64);rw [ho] at hj64 h64⊢;have g1:decide ((j:Int)>=(o:Int))=false:=by simp;omega
 clear hsum ho;have HbW:=lhd hbW;clear hW hbW;go_wp2_with fail;go_loopw [0,15] (fun v i wr=>∃q:Nat,q<=j/\i=.int .i64 (q:Int)/\v=.int .u64 ((clr x q:Nat):Int)/\wr=W) (fun _ i _=>j -(intOf i).toNat)
 case atStart=>exact ⟨0,zAp _,rfl,rfl,rfl⟩
 case round=>
  obtain ⟨q,hq,rfl,rfl,rfl⟩:=hrel;by_cases hlt:q < j
  · have h0:=Hpos.out q oM;have hl:=Hle.out q;have hs:clr x (q+1)=clr x q&&&(clr x q - 1):=rfl;obtain ⟨y,hy⟩:=eqx (clr x q);rw [hy] at h0 hl hs⊢;obtain ⟨y1,hy1⟩:=eqx (y - 1);rw [hy1] at hs;have e1:IntKind.u64.wrap ((y:Int) - 1)=(y1:Int):=(by rw [IntKind.wrap_u64];omega);have e2:=aBN y y1 oM oM;have Hs:=lhd hs;clear hy hy1 hs h0 hl;go_wp2_with fail;go_roundw
    case rel=>exact ⟨q+1,by omega,by go_num,by rw [Hs.out],by first | rfl | trivial⟩
    case measure=>simp [intOf];omega
  · obtain rfl:q=j:=oM;have hl:=Hle.out q;have hc:=Hctz.out;obtain ⟨y,hy⟩:=eqx (clr x q);rw [hy] at hl hc⊢;have hT:=HT.out.below HbW.out hw;clear hy;go_wp2_with fail;refine (aIF y p oM hc _ hT).mono ?_;rintro e w2 ⟨rfl,rfl⟩;go_wp2_with fail;go_ret;exact ⟨rfl,HbW.out⟩
theorem aG8 (y:Nat) (h:y < 18446744073709551616):18446744073709551615 ^^^ y=18446744073709551615 - y:=by
 have e1:18446744073709551615=2 ^ 64 - 1:=dC;have e2:18446744073709551615 - y=2 ^ 64 -(y+1):=oM;rw [e2,e1];apply Nat.eq_of_testBit_eq;intro i;rw [Nat.testBit_xor,Nat.testBit_two_pow_sub_one,Nat.testBit_two_pow_sub_succ h];by_cases hi:i < 64
 · simp [hi]
 · have:y.testBit i=false:=Nat.testBit_lt_two_pow (zAl (show y < 2 ^ 64 from h) (zBp dC (show 64<=i by omega)));simp [hi,this]
theorem aH2 (y:Nat) (h:y < 18446744073709551616):bits .xor .u64 IntKind.u64.max (y:Int)=((eX y false:Nat):Int):=by
 have e:IntKind.u64.max=((18446744073709551615:Nat):Int):=dC;rw [e,bits_xor_u64_nat _ _ oM h];congr 1;unfold eX;simp only [Bool.false_eq_true,if_false];exact aG8 y h
theorem tD (gb:Nat) (l:List Bool) (b:Bool) (p j:Nat) (w:World) (hb:Bk w gb 254 (gK l)) (hl:l.length<=128) (hp:l[p]?=some b) (hj:(l.take p).count b=j) (hT:TabW w):
 Calls Tryz.prog 278 #[.pointer (some ⟨gb,0,none⟩),.int .i64 (j:Int),.bool b] w fun e w'=>e=.returned (.int .i64 (p:Int))/\Below w.heap.size w w':=by
 have hpl:=(zAc.1 hp).1;have hw:1 < w.heap.size:=hT.pos;have hx0:=aAX _ b (lS l);have hx1:=aAX _ b (lO l hl);have hw0:=lS l;have hw1:=lO l hl;have c0:=hb.cell 0;have c1:=hb.cell 1;have c2:=hb.cell 2;have g0:decide ((j:Int) < 0)=false:=by simp
 have hlen:p < l.length:=hpl;have hsum:∀x:Nat,(([x].map fun x=>bF x 64).sum)=bF x 64:=fun x=>by simp
 obtain ⟨x0,ex0⟩:∃x,eX (w0 l) b=x:=⟨_,rfl⟩;obtain ⟨x1,ex1⟩:∃x,eX (w1 l) b=x:=⟨_,rfl⟩;unfold gK at c0 c1 c2;obtain ⟨y0,ey0⟩:∃x,w0 l=x:=⟨_,rfl⟩;obtain ⟨y1,ey1⟩:∃x,w1 l=x:=⟨_,rfl⟩;obtain ⟨N,hN⟩:∃n,l.length=n:=⟨_,rfl⟩;have i0:=ix0 (y0:Int) (y1:Int);have i1:=ix1 (y0:Int) (y1:Int);rw [ex0] at hx0;rw [ex1] at hx1;rw [ey0] at hw0 ex0;rw [ey1] at hw1 ex1;rw [hN,ey0,ey1] at c0 c1 c2;rw [hN] at hlen;have HT:=lhd hT;replace c0:w.cell? ⟨gb,0,none⟩=some (.int .i64 (N:Int)):=c0.trans rfl;have hlt:=hb.lt;obtain ⟨C0,HN128⟩:=hqq2 c0 hl;have hjp:j<=p:=by rw [<-hj];exact zAk zBv (by rw [zAj];omega)
 have Hjp:=lhd hjp;clear hjp;have hlo:=fun h=>aIg (b:=b) hl hp hj h;have hhi:=fun h=>aIh (b:=b) hl hp hj h;rw [ey0,ex0] at hlo hhi;rw [ey1,ex1] at hhi;obtain ⟨o0,ho0⟩:∃o,bF x0 64=o:=⟨_,rfl⟩;obtain ⟨o1,ho1⟩:∃o,bF x1 64=o:=⟨_,rfl⟩;obtain ⟨kk,hkk⟩:∃k,j - o0=k:=⟨_,rfl⟩;have hhi':64<=p->o0<=j/\x1.testBit (p - 64)=true/\bF x1 (p - 64)=kk/\kk < o1:=fun h=>by obtain ⟨n,k,h1,h2,h3,h4,h5,h6⟩:=hhi h;rw [ho0] at h1;rw [ho1] at h6;subst h1;rw [hkk] at h3;subst h3;exact ⟨h2,h4,h5,h6⟩
 have hxx:b=false->bits .xor .u64 IntKind.u64.max (y0:Int)=(x0:Int)/\bits .xor .u64 IntKind.u64.max (y1:Int)=(x1:Int):=fun hf=>by rw [<-ex0,<-ex1,hf];exact ⟨aH2 y0 hw0,aH2 y1 hw1⟩
 have htt:b=true->x0=y0/\x1=y1:=fun hf=>by rw [<-ex0,<-ex1,hf];simp [eX]
 obtain ⟨Hlo,Hhi,Ho0,Ho1,Hkk,HN,Hp⟩:=hqq7 hlo hhi' ho0 ho1 hkk hN hpl;clear hlo hhi hhi' ho0 ho1 hkk hN hp hj hb hl hT ex0 ex1 ey0 ey1 hpl;obtain ⟨Hxx,Htt⟩:=hqq2 hxx htt;clear hxx htt;cases b with
 | true=>
   replace Htt:=Htt.out rfl;clear Hxx;go_enter Tryz.func278,Tryz.ntmps278;go_wp2_with fail;go_loopw [1,21] (fun v i wr=>∃q:Nat,i=.int .i64 (q:Int)/\((q=0/\v=.int .i64 (j:Int))∨(q=1/\64<=p/\v=.int .i64 (kk:Int)))/\Below w.heap.size w wr) (fun _ i _=>2 -(intOf i).toNat)
   case atStart=>exact ⟨0,rfl,.inl ⟨rfl,rfl⟩,Below.refl _ _⟩
   case round=>
    obtain ⟨q,rfl,(⟨rfl,rfl⟩|⟨rfl,h64,rfl⟩),hbw⟩:=hrel
    all_goals
        obtain ⟨z0,z1⟩:=Htt;subst z0;subst z1
    · clear c1 c2 i1;have hsz:=hbw.size;have d0:=(hbw.cell (p:=⟨gb,0,none⟩) hlt).trans c0;clear c0;go_wp2_with fail;refine (gS _ 1 1 _ [x0] _ (Rd.made _ _ 1 1 _ rfl) (by simpa using hx0) oM).mono ?_;rintro e W ⟨rfl,hW⟩;have hbW:Below w.heap.size w W:=(by first |(rw [hW];exact hbw.alloc hsz _)|(rw [<-hW];exact hbw.alloc hsz _));rw [hsum,Ho0.out];have d1:=(hbW.cell (p:=⟨gb,0,none⟩) hlt).trans C0.out;clear hW d0;by_cases h:p < 64
      · obtain ⟨s1,s2,s3⟩:=Hlo.out h;have s4:=s3;rw [Ho0.out] at s4;have g1:j < o0:=s4;have e5:IntKind.i64.wrap (p:Int)=(p:Int):=(by rw [IntKind.wrap_i64];omega);obtain ⟨S1,S2,S3⟩:=hqq3 s1 s2 s3;clear s1 s2 s3 s4;go_wp2_with fail;refine (gI x0 p j hx0 S1.out S2.out S3.out _ (HT.out.below hbW hw) (zAl hw hbW.size)).mono ?_;rintro e W2 ⟨rfl,hb2⟩;have hbW2:=hbW.trans (hb2.mono hbW.size);have d2:=(hbW2.cell (p:=⟨gb,0,none⟩) hlt).trans C0.out;clear d1;go_wp2_with fail;go_ret;exact ⟨rfl,hbW2⟩
      · obtain ⟨s0,s1,s2,s3⟩:=Hhi.out oM;have g1:¬j < o0:=oM;have g2:decide (j < o0)=false:=zBy g1;have e5:IntKind.i64.wrap ((j:Int) -(o0:Int))=(kk:Int):=(by have:=Hkk.out;have h3:=HN128.out;have h4:=Hjp.out;have h5:=Hp.out;rw [IntKind.wrap_i64];omega);clear s0 s1 s2 s3;go_wp2_with fail;go_roundw
        case rel=>exact ⟨1,by go_num,.inr ⟨by first | rfl | trivial,by omega,by go_num⟩,hbW⟩
        case measure=>simp [intOf]
    · clear c1 c2 i0;have hsz:=hbw.size;have d0:=(hbw.cell (p:=⟨gb,0,none⟩) hlt).trans c0;clear c0;go_wp2_with fail;refine (gS _ 1 1 _ [x1] _ (Rd.made _ _ 1 1 _ rfl) (by simpa using hx1) oM).mono ?_;rintro e W ⟨rfl,hW⟩;have hbW:Below w.heap.size w W:=(by first |(rw [hW];exact hbw.alloc hsz _)|(rw [<-hW];exact hbw.alloc hsz _));rw [hsum,Ho1.out];have d1:=(hbW.cell (p:=⟨gb,0,none⟩) hlt).trans C0.out;clear hW d0;obtain ⟨s0,s1,s2,s3⟩:=Hhi.out h64;have s4:=s3;rw [<-Ho1.out] at s3;have g1:kk < o1:=s4;have e5:IntKind.i64.wrap (64+((p - 64:Nat):Int))=(p:Int):=(by have h3:=HN128.out;have h4:=Hp.out;rw [IntKind.wrap_i64];omega);obtain ⟨pp,hpp⟩:∃x,p - 64=x:=⟨_,rfl⟩;rw [hpp] at e5 s1 s2;obtain ⟨S1,S2,S3⟩:=hqq3 s1 s2 s3;clear s0 s1 s2 s3 s4 hpp h64;go_wp2_with fail;refine (gI x1 pp kk hx1 S1.out S2.out S3.out _ (HT.out.below hbW hw) (zAl hw hbW.size)).mono ?_;rintro e W2 ⟨rfl,hb2⟩;have hbW2:=hbW.trans (hb2.mono hbW.size);have d2:=(hbW2.cell (p:=⟨gb,0,none⟩) hlt).trans C0.out;clear d1;go_wp2_with fail;go_ret;exact ⟨rfl,hbW2⟩
 | false=>
   replace Hxx:=Hxx.out rfl;clear Htt;go_enter Tryz.func278,Tryz.ntmps278;go_wp2_with fail;go_loopw [1,21] (fun v i wr=>∃q:Nat,i=.int .i64 (q:Int)/\((q=0/\v=.int .i64 (j:Int))∨(q=1/\64<=p/\v=.int .i64 (kk:Int)))/\Below w.heap.size w wr) (fun _ i _=>2 -(intOf i).toNat)
   case atStart=>exact ⟨0,rfl,.inl ⟨rfl,rfl⟩,Below.refl _ _⟩
   case round=>
    obtain ⟨q,rfl,(⟨rfl,rfl⟩|⟨rfl,h64,rfl⟩),hbw⟩:=hrel
    all_goals
        obtain ⟨z0,z1⟩:=Hxx
    · clear c1 c2 i1;have hsz:=hbw.size;have d0:=(hbw.cell (p:=⟨gb,0,none⟩) hlt).trans c0;clear c0;go_wp2_with fail;refine (gS _ 1 1 _ [x0] _ (Rd.made _ _ 1 1 _ rfl) (by simpa using hx0) oM).mono ?_;rintro e W ⟨rfl,hW⟩;have hbW:Below w.heap.size w W:=(by first |(rw [hW];exact hbw.alloc hsz _)|(rw [<-hW];exact hbw.alloc hsz _));rw [hsum,Ho0.out];have d1:=(hbW.cell (p:=⟨gb,0,none⟩) hlt).trans C0.out;clear hW d0;by_cases h:p < 64
      · obtain ⟨s1,s2,s3⟩:=Hlo.out h;have s4:=s3;rw [Ho0.out] at s4;have g1:j < o0:=s4;have e5:IntKind.i64.wrap (p:Int)=(p:Int):=(by rw [IntKind.wrap_i64];omega);obtain ⟨S1,S2,S3⟩:=hqq3 s1 s2 s3;clear s1 s2 s3 s4;go_wp2_with fail;refine (gI x0 p j hx0 S1.out S2.out S3.out _ (HT.out.below hbW hw) (zAl hw hbW.size)).mono ?_;rintro e W2 ⟨rfl,hb2⟩;have hbW2:=hbW.trans (hb2.mono hbW.size);have d2:=(hbW2.cell (p:=⟨gb,0,none⟩) hlt).trans C0.out;clear d1;go_wp2_with fail;go_ret;exact ⟨rfl,hbW2⟩
      · obtain ⟨s0,s1,s2,s3⟩:=Hhi.out oM;have g1:¬j < o0:=oM;have g2:decide (j < o0)=false:=zBy g1;have e5:IntKind.i64.wrap ((j:Int) -(o0:Int))=(kk:Int):=(by have:=Hkk.out;have h3:=HN128.out;have h4:=Hjp.out;have h5:=Hp.out;rw [IntKind.wrap_i64];omega);clear s0 s1 s2 s3;go_wp2_with fail;go_roundw
        case rel=>exact ⟨1,by go_num,.inr ⟨by first | rfl | trivial,by omega,by go_num⟩,hbW⟩
        case measure=>simp [intOf]
    · clear c1 c2 i0;have hsz:=hbw.size;have d0:=(hbw.cell (p:=⟨gb,0,none⟩) hlt).trans c0;clear c0;go_wp2_with fail;refine (gS _ 1 1 _ [x1] _ (Rd.made _ _ 1 1 _ rfl) (by simpa using hx1) oM).mono ?_;rintro e W ⟨rfl,hW⟩;have hbW:Below w.heap.size w W:=(by first |(rw [hW];exact hbw.alloc hsz _)|(rw [<-hW];exact hbw.alloc hsz _));rw [hsum,Ho1.out];have d1:=(hbW.cell (p:=⟨gb,0,none⟩) hlt).trans C0.out;clear hW d0;obtain ⟨s0,s1,s2,s3⟩:=Hhi.out h64;have s4:=s3;rw [<-Ho1.out] at s3;have g1:kk < o1:=s4;have e5:IntKind.i64.wrap (64+((p - 64:Nat):Int))=(p:Int):=(by have h3:=HN128.out;have h4:=Hp.out;rw [IntKind.wrap_i64];omega);obtain ⟨pp,hpp⟩:∃x,p - 64=x:=⟨_,rfl⟩;rw [hpp] at e5 s1 s2;obtain ⟨S1,S2,S3⟩:=hqq3 s1 s2 s3;clear s0 s1 s2 s3 s4 hpp h64;go_wp2_with fail;refine (gI x1 pp kk hx1 S1.out S2.out S3.out _ (HT.out.below hbW hw) (zAl hw hbW.size)).mono ?_;rintro e W2 ⟨rfl,hb2⟩;have hbW2:=hbW.trans (hb2.mono hbW.size);have d2:=(hbW2.cell (p:=⟨gb,0,none⟩) hlt).trans C0.out;clear d1;go_wp2_with fail;go_ret;exact ⟨rfl,hbW2⟩
def sv (s:Nat):Value:=.int .i64 (s:Int)
def bB (s lv:Nat):Nat:=s / 2 ^(9 - lv)
def fS (s lv:Nat):Bool:=decide (s / 2 ^(8 - lv)% 2=1)
theorem eT (s:Nat) (w:World) (hs:s < 257):
 Calls Tryz.prog 143 #[.int .i64 (s:Int)] w fun e w'=>e=.returned (.bool true)/\Below w.heap.size w w':=by
 have h0:(0:Int)<=(s:Int):=oM;have h1:(s:Int) < 257:=oM;go_enter Tryz.func143,Tryz.ntmps143;go_wp2;go_ret;exact ⟨rfl,Below.refl _ _⟩
theorem aBF (s k:Nat):(s:Int)/ 2 ^ k=((s / 2 ^ k:Nat):Int):=by push_cast;rfl
theorem aIU (q:Nat) (h:q < 257):bits .and .i64 (q:Int) 1=((q % 2:Nat):Int):=by
 have h1:=(bits_nat .i64 10 dC (fun n h0 h1=>by rw [IntKind.wrap_i64];omega) q 1 oM oM).1;rw [show ((1:Nat):Int)=1 from rfl] at h1;rw [h1,Nat.and_one_is_mod]
theorem jU (s lv:Nat) (w:World) (hs:s < 257) (hl:lv<=9):
 Calls Tryz.prog 197 #[.int .i64 (s:Int),.int .i64 (lv:Int)] w fun e w'=>e=.returned (.int .i64 ((bB s lv:Nat):Int))/\Below w.heap.size w w':=by
 have h0:¬((lv:Int) < 0):=oM;have h1:¬((lv:Int) > 9):=oM;go_enter Tryz.func197,Tryz.ntmps197;go_wp2_with fail;refine (eT s _ hs).mono ?_;rintro e w1 ⟨rfl,hb⟩;go_wp2_with fail;go_ret;exact ⟨fC (aBF _ _),hb⟩
theorem lF (s lv:Nat) (w:World) (hs:s < 257) (hl:lv < 9):
 Calls Tryz.prog 198 #[.int .i64 (s:Int),.int .i64 (lv:Int)] w fun e w'=>e=.returned (.bool (fS s lv))/\Below w.heap.size w w':=by
 have h0:¬((lv:Int) < 0):=oM;have h1:¬((lv:Int)>=9):=oM;go_enter Tryz.func198,Tryz.ntmps198;go_wp2_with fail;refine (eT s _ hs).mono ?_;rintro e w1 ⟨rfl,hb⟩;go_wp2_with fail;go_ret;refine ⟨eP ?_,hb⟩;have hq:s / 2 ^(8 - lv) < 257:=Nat.lt_of_le_of_lt (Nat.div_le_self _ _) hs;rw [aBF,aIU _ hq];unfold fS;generalize s / 2 ^(8 - lv)% 2=r;by_cases h:r=1;subst h;rfl
 · have h2:((r:Int)==1)=false:=(by simp;omega);rw [h2];simp [h]
theorem qV (gb:Nat) (l:List Bool) (k:Nat) (w:World) (hb:Bk w gb 254 (gK l)) (hk:k < l.length):
 Calls Tryz.prog 235 #[.pointer (some ⟨gb,0,none⟩),.int .i64 (k:Int)] w fun e w'=>e=.returned (.int .i64 0)/\Below w.heap.size w w':=by
 have c0:w.cell? ⟨gb,0,none⟩=some (.int .i64 (l.length:Int)):=(hb.cell 0).trans rfl;have hlt:=hb.lt;have hkI:¬(k:Int) < 0:=oM;have hkJ:decide ((k:Int)>=(l.length:Int))=false:=by simp;omega
 clear hb;go_enter Tryz.func235,Tryz.ntmps235;go_wp2_with fail;go_ret;exact ⟨rfl,Below.refl _ _⟩
theorem aIN (l:List Bool) (k:Nat):(if k < 64 then w0 l >>> k else w1 l >>>(k - 64))&&& 1=if l.getD k false then 1 else 0:=by
 by_cases h:k < 64
 · rw [zBx h];have:=jD (l.take 64) k;rw [Nat.and_one_is_mod,Nat.shiftRight_eq_div_pow,<-Nat.toNat_testBit,show (w0 l).testBit k=(l.take 64).getD k false from this];have e:(l.take 64).getD k false=l.getD k false:=(by simp [zAb,zBs,h]);rw [e];cases l.getD k false <;> rfl
 · rw [zBw h];have:=jD (l.drop 64) (k - 64);rw [Nat.and_one_is_mod,Nat.shiftRight_eq_div_pow,<-Nat.toNat_testBit,show (w1 l).testBit (k - 64)=(l.drop 64).getD (k - 64) false from this];have e:(l.drop 64).getD (k - 64) false=l.getD k false:=(by simp [zAb,zBt,show 64+(k - 64)=k by omega]);rw [e];cases l.getD k false <;> rfl
theorem aD4 (u k:Nat) (bb:Bool) (hu:u < 18446744073709551616) (h:u >>> k&&& 1=if bb then 1 else 0):(bits .and .u64 ((u:Int)/ 2 ^ k) 1==1)=bb:=by
 have e:=zL u k 1 (2 ^ k) hu oM rfl;have e2:((2 ^ k:Nat):Int)=(2:Int)^ k:=by push_cast;rfl
 rw [e2] at e;have e3:bits .and .u64 ((u:Int)/ 2 ^ k) 1=((u >>> k&&& 1:Nat):Int):=e;rw [e3,h];cases bb <;> rfl
theorem aAR (gb:Nat) (l:List Bool) (k:Nat) (w:World) (hb:Bk w gb 254 (gK l)) (hl:l.length<=128) (hk:k < l.length):
 Calls Tryz.prog 193 #[.pointer (some ⟨gb,0,none⟩),.int .i64 (k:Int)] w fun e w'=>e=.returned (.tuple #[.bool (l.getD k false),.int .i64 0])/\Below w.heap.size w w':=by
 have Hb:=lhd hb;have hwb:=aIN l k;obtain ⟨bb,hbb⟩:∃b,l.getD k false=b:=⟨_,rfl⟩;rw [hbb] at hwb⊢;clear hbb;have b0:=lS l;have b1:=lO l hl;have hlt:=hb.lt;clear hb;go_enter Tryz.func193,Tryz.ntmps193;go_wp2_with fail;refine (qV gb l k _ Hb.out hk).mono ?_;rintro e w1' ⟨rfl,hb1⟩;have hb2:=Hb.out.below hb1 Hb.out.lt;have c1:w1'.cell? ⟨gb,1,none⟩=some (.int .u64 ((w0 l:Nat):Int)):=(hb2.cell 1).trans rfl;have c2:w1'.cell? ⟨gb,2,none⟩=some (.int .u64 ((w1 l:Nat):Int)):=(hb2.cell 2).trans rfl;have hlt2:=hb2.lt;by_cases h64:k < 64
 · rw [zBx h64] at hwb;have e1:(k:Int).tdiv 64=0:=(by rw [Int.tdiv_eq_ediv_of_nonneg oM];omega);have e2:(k:Int).tmod 64=(k:Int):=(by rw [Int.tmod_eq_emod_of_nonneg oM];omega);have e3:IntKind.u64.wrap (k:Int)=(k:Int):=(by rw [IntKind.wrap_u64];omega);generalize w0 l=u at*
   obtain ⟨Hwb,Hb1⟩:=hqq2 hwb hb1;clear hb1 hb2 c2 Hb hwb;go_wp2_with fail;go_ret2;exact ⟨by rw [aD4 u k bb b0 Hwb.out];rfl,Hb1.out⟩
 · rw [zBw h64] at hwb;have e1:(k:Int).tdiv 64=1:=(by rw [Int.tdiv_eq_ediv_of_nonneg oM];omega);have e2:(k:Int).tmod 64=((k - 64:Nat):Int):=(by rw [Int.tmod_eq_emod_of_nonneg oM];omega);have e3:IntKind.u64.wrap ((k - 64:Nat):Int)=((k - 64:Nat):Int):=(by rw [IntKind.wrap_u64];omega);have hk64:k - 64 < 64:=oM;generalize w1 l=u at*
   generalize k - 64=k2 at*
   obtain ⟨Hwb,Hb1⟩:=hqq2 hwb hb1;clear hb1 hb2 c1 Hb hwb;go_wp2_with fail;go_ret2;exact ⟨by rw [aD4 u k2 bb b1 Hwb.out];rfl,Hb1.out⟩
theorem sJ (gt:Nat) (bs:List Bool) (k:Nat) (w:World) (h:TreeAt w gt bs) (hk:k < bs.length):
 Calls Tryz.prog 192 #[.pointer (some ⟨gt,0,none⟩),.int .i64 (k:Int)] w fun e w'=>e=.returned (.int .i64 0)/\VisK (fun b=>b=gt) w w':=by
 have hv0:∃cs,Bk w gt 223 cs/\3 < cs.size:=by obtain ⟨ga,v,⟨rfl,vl,h2⟩|⟨h1,h2,gl,cl,gb,h3⟩⟩:=h;exact ⟨_,h2,by simp⟩;exact ⟨_,h3.tree,by simp⟩
 obtain ⟨cs,hcs,hc3⟩:=hv0;have hv1:=VisK.set_tree hcs 0;have ht1:=h.vis hv1.1;have hgl:=hcs.lt;have c3:w.cell? ⟨gt,3,none⟩=some cs[3]:=by rw [hcs.cell 3];simp [hc3]
 have f3:=hcs.frozen 3;have hkI:¬(k:Int) < 0:=oM;obtain ⟨HV,Ht⟩:=hqq2 hv1 ht1;obtain ⟨N,hN⟩:=eqx bs.length;have HN:=lhd hN;have hkJ:¬(N<=k):=oM;clear h hv1 ht1 hcs hN hk;go_enter Tryz.func192,Tryz.ntmps192;go_wp2_with fail;clear c3 f3;refine (fW gt bs _ Ht.out).mono ?_;rintro e w2 ⟨rfl,hb2⟩;rw [HN.out];have hv2:=HV.out.below hb2;have HV2:=lhd hv2;clear hv2 hb2 HV Ht;go_wp2_with fail;go_ret;exact ⟨rfl,HV2.out⟩
theorem aBV (gt:Nat) (bs:List Bool) (k:Nat) (w:World) (h:TreeAt w gt bs) (hk:k < bs.length):
 Calls Tryz.prog 129 #[.pointer (some ⟨gt,0,none⟩),.int .i64 (k:Int)] w fun e w'=>e=.returned (.tuple #[.bool (bs.getD k false),.int .i64 0])/\VisK (fun b=>b=gt) w w':=by
 have Hh:=lhd h;obtain ⟨bb,hbb⟩:∃b,bs.getD k false=b:=⟨_,rfl⟩;rw [hbb];obtain ⟨Hbb,Hk⟩:=hqq2 hbb hk;clear h hbb;go_enter Tryz.func129,Tryz.ntmps129;go_wp2_with fail;refine (sJ gt bs k w Hh.out hk).mono ?_;rintro e w2 ⟨rfl,hv2⟩;have ht2:=Hh.out.vis hv2.1;have HV2:=lhd hv2;clear hv2 Hh;obtain ⟨ga,v,⟨hbe,_,_⟩|⟨hbe,hb2,gl,cl,gb,hl⟩⟩:=ht2
 · rw [hbe] at hk;simp at hk
 clear hk;obtain ⟨c0,c1,c2,c3,d0,d1,d2,d3,d4,d5,d6,d7⟩:=hl.cells;have hl2:=hl.row.lt;have hgl2:=hl.tree.lt;have hgt_gl:gt≠gl:=hl.row.bk_ne hl.tree dC;have f3:=hl.tree.frozen 3;obtain ⟨Hl,H2⟩:=hqq2 hl hb2;clear hl hb2 hbe;go_wp2_with fail;go_loopw [1,7,8] (fun x y z wr=>x=.int .i64 (k:Int)/\y=.int .i64 0/\wr=w2) (fun _ _ _ _=>0)
 case atStart=>exact ⟨rfl,rfl,rfl⟩
 case round=>obtain ⟨rfl,rfl,rfl⟩:=hrel;go_wp2_with fail;have hgb:=Bk.ne Hl.out.blk Hl.out.tree dC;have hbb:=H2.out;have hv3:=(VisK.set_tree Hl.out.tree (wrap64 (v+1))).alloc (.cells #[.int .i64 (-1),.int .i64 (-1),.int .i64 0,.int .i64 (bs.length:Int),.int .i64 ((bs.count true:Nat):Int),.int .i64 0,.int .i64 0,.pointer (some ⟨gb,0,none⟩)] 226);refine (aAR gb bs k _ ((Hl.out.blk.far hgb _).alloc _) H2.out Hk.out).mono ?_;rintro e w4 ⟨rfl,hb4⟩;rw [Hbb.out];have hv4:=(HV2.out.trans hv3).below hb4;have HV4:=lhd hv4;clear hv3 hb4 hv4 hgb hbb;go_wp2_with fail;go_ret2;exact ⟨rfl,HV4.out⟩
def fN:List (String×DataW Unit):= [("math/bits.deBruijn64tab",Rows.laid_math_bits_deBruijn64tab)]
theorem aIO:Tryz.prog.globalNamed "math/bits.deBruijn64tab" =some 1:=by kernel_rfl
theorem aIR:(Tryz.prog.globals[1]?).map (·.type)=some 293:=by kernel_rfl
theorem vF (os:Os) (args:Array Value):laidMetH Tryz.prog fN ((World.doorLaid Tryz.prog 14 os).forCall (fun _ _=>0) ⟨#[],args, []⟩).memory:=
 laidMetH_of_parts3 (fuel:=8) (laidMet_of_run' 8 kR kR) kR kR
theorem aEe:(Rows.laid_math_bits_deBruijn64tab:DataW Unit)=Lib.tabData .u8 (Lib.deBruijn64tab.map fun n:Nat=>(n:Int)):=rfl
theorem kO {W:World} (h:laidMetH Tryz.prog fN W):TabW W:=by
 rw [MakeChecks.laidMetH_plain _ _ _ kR] at h;unfold fN at h;rw [aEe] at h;have hT:=Lib.tabIs_of_head aIO aIR Tryz.underlying293 Tryz.underlying5 kR kR h;intro j hj;have:=hT.cell aIO j (by rw [zBc];exact hj);rw [this,zAb,zAf,zAb];cases Lib.deBruijn64tab[j]? <;> rfl
theorem fK:(Tryz.prog.info? 3).map (fun i=>(i.zero,i.size,i.bytes))=some (some (.int .i64 0),1,8):=by kernel_rfl
theorem oO (l:List Nat):∀u∈l.map sv,u.oneCell'=true:=by
 intro u hu;obtain ⟨x,_,rfl⟩:=zAy.1 hu;rfl
def dE (t:List UInt8):List Nat:=t.map (fun c=>c.toNat+1)
def aD (t:List UInt8):List Nat:=dE t++ [0]
theorem aJ (t:List UInt8):(aD t).length=t.length+1:=by simp [aD,dE]
theorem eK (t:List UInt8):∀s∈aD t,s < 257:=by
 intro s hs;unfold aD dE at hs;rcases zCo.1 hs with h | h;obtain ⟨c,_,rfl⟩:=zAy.1 h;have:=c.toNat_lt;omega;simp at h;omega
theorem rR (c:UInt8) (w:World):
 Calls Tryz.prog 56 #[.int .u8 (c.toNat:Int)] w fun e w'=>e=.returned (.int .i64 ((c.toNat+1:Nat):Int))/\Below w.heap.size w w':=by
 have hc:=c.toNat_lt;have h64:IntKind.i64.wrap (c.toNat:Int)=(c.toNat:Int):=by rw [IntKind.wrap_i64];omega
 go_enter Tryz.func56,Tryz.ntmps56;go_wp2;go_ret;exact ⟨fC oM,Below.refl _ _⟩
theorem wK (gs g0:Nat) (A:Option Addr) (m c B:Nat) (t:List UInt8) (w:World) (hs:Bk w gs 23 #[.slice A m c]) (hr:Rd w B 1 A m (t.map bv)) (hB:B<=w.heap.size) (hm:m<=1000):
 Calls Tryz.prog 114 #[.slice (some ⟨gs,0,none⟩) 1 1] w fun e w'=>∃A' c',e=.returned (.slice A' (m+1) c')/\Made w' w.heap.size 3 1 A' (m+1) c' ((aD t).map sv)/\Below w.heap.size w w':=by
 obtain ⟨i0,hi0,hz0,hz1,hz2⟩:=info_parts fK;have htl:t.length=m:=by simpa using hr.1
 have c0:w.cell? ⟨gs,0,none⟩=some (.slice A m c):=(hs.cell 0).trans rfl;have hgs:=hs.lt;obtain ⟨Hr,Htl⟩:=hqq2 (hr.mono hB) htl;clear hs hr htl;go_enter Tryz.func114,Tryz.ntmps114;go_wp2_with fail;go_loopw [3,10] (fun v i wr=>∃k:Nat,k<=1/\i=.int .i64 k/\wr.ownsRow w.heap.size 3 1 v (if k=0 then 0 else m) ((if k=0 then [] else dE t).map sv)/\Below w.heap.size w wr) (fun _ i _=>1 -(intOf i).toNat)
 case atStart=>exact ⟨0,by omega,rfl,World.ownsRow_nil _ _ _ _,Below.refl _ _⟩
 case round=>
  obtain ⟨k,hk,rfl,hown,hb⟩:=hrel;have hsz:=hb.size;rcases k with _ | k
  · have d0:wr.cell? ⟨gs,0,none⟩=some (.slice A m c):=(hb.cell hgs).trans c0;obtain ⟨Hown,Hb⟩:=hqq2 hown hb;clear hown hb;go_wp2_with fail;obtain ⟨W,hW⟩:∃W,W=wr:=⟨_,rfl⟩;subst hW;go_loopw [3,16] (fun v i wr2=>∃k:Nat,k<=m/\i=.int .i64 k/\wr2.ownsRow w.heap.size 3 1 v k ((dE (t.take k)).map sv)/\Below w.heap.size w wr2) (fun _ i _=>m -(intOf i).toNat)
    case atStart=>exact ⟨0,by omega,rfl,Hown.out,Hb.out⟩
    case round=>
        obtain ⟨k,hk,rfl,hown,hb⟩:=hrel;have hsz:=hb.size;by_cases hlt:k < m
        · have hkl:k < t.length:=(by rw [Htl.out];exact hlt);obtain ⟨x,hx⟩:∃x,t[k]?=some x:=⟨t[k],zAa hkl⟩;obtain ⟨b,off,u,rfl,hbl,hu,hc⟩:=(Hr.out.below hb).get hlt;rw [zAf,hx] at hu;simp at hu;subst hu;have htk:t.take (k+1)=t.take k++ [x]:=(by rw [zAv,hx];rfl);unfold bv at hc;obtain ⟨HTK,Hown2⟩:=hqq2 htk hown;clear htk hx hown;go_wp2_with fail;refine (rR x _).mono ?_;rintro e w1 ⟨rfl,hb1⟩;have hown1:=aV Hown2.out hb1;have hb2:=hb.trans (hb1.mono hsz);have hsz2:=hb2.size;have Hown3:=lhd hown1;clear hown1;go_wp2_with (at_builtin;refine aY _ rfl (.tmp 20) (.tmp 23) _ rfl w.heap.size 3 i0 (.int .i64 0) 1 8 Tryz.underlying22 hi0 hz0 hz1 hz2 rfl dC _ k _ rfl Hown3.out rfl rfl (by simp [Value.oneCell']) (by unfold maxLen;omega) oM hsz2 ?_;intro v2 w2 hown2 hg2 hs2 hat2);have hb3:=aW hb2 Hown3.out hg2 hsz2;clear hg2 hat2;go_roundw
          case rel=>refine ⟨k+1,by omega,by go_num,?_,hb3⟩;rw [HTK.out,dE,zAz,zAz];exact hown2
          case measure=>simp [intOf];omega
        · have hkm:k=m:=oM;subst hkm;rw [zAg (by rw [Htl.out];omega)] at hown;have Hown2:=lhd hown;clear hown;go_wp2_with fail;go_roundw
          case rel=>exact ⟨1,by omega,by go_num,Hown2.out,hb⟩
          case measure=>simp [intOf]
  · have hk0:k=0:=oM;subst hk0;rw [zBw oM,zBw oM] at hown;have Hown:=lhd hown;have hlS:(aD t).map sv=(dE t).map sv++ [.int .i64 0]:=(by simp [aD,sv]);have HlS:=lhd hlS;clear hown hlS;go_wp2_with (at_builtin;refine aY _ rfl (.tmp 27) (.tmp 28) _ rfl w.heap.size 3 i0 (.int .i64 0) 1 8 Tryz.underlying22 hi0 hz0 hz1 hz2 rfl dC _ m _ rfl Hown.out rfl rfl (by simp [Value.oneCell']) (by unfold maxLen;omega) oM hsz ?_;intro v2 w2 hown2 hg2 hs2 hat2);have hb3:=aW hb Hown.out hg2 hsz;obtain ⟨A',c',rfl,hm'⟩:=aS hown2;go_ret;exact ⟨A',c',rfl,by rw [HlS.out];exact hm',hb3⟩
theorem yG (A:Option Addr) (n c B:Nat) (l:List Nat) (w:World) (hr:Rd w B 1 A n (l.map sv)) (hB:B<=w.heap.size) (hn:n<=1073741824):
 Calls Tryz.prog 115 #[.slice A n c] w fun e w'=>∃A' c',e=.returned (.slice A' n c')/\Made w' w.heap.size 3 1 A' n c' (l.map sv)/\Below w.heap.size w w':=by
 obtain ⟨i0,hi0,hz0,hz1,hz2⟩:=info_parts fK;have q22:∀(w:World) (a:Option Addr) (n c:Nat),(binOp .eql 22 (.slice a n c) (.slice none 0 0)).run Tryz.prog w=.ok (.bool a.isNone) w:=fun w a n c=>Lib.run_eql_slice_nil w _ _ a n c _ _ Tryz.underlying22;rcases A with _ | a
 · have hn0:n=0:=by
    rcases zBa n with h | h;exact h
    · obtain ⟨_,_,h,_⟩:=hr.2 h;cases h
   subst hn0;have hl:l= []:=(by have:=hr.1;simp only [zBc,Nat.zero_mul] at this;exact zBk this);subst hl;go_enter Tryz.func115,Tryz.ntmps115;go_wp2;go_ret;exact ⟨none,0,rfl,⟨World.ownsRow_nil _ _ _ _,Rd.nil _ _ _ _,zAs _,zAp _⟩,Below.refl _ _⟩
 · have Hr:=lhd hr;clear hr;go_enter Tryz.func115,Tryz.ntmps115;go_wp2_with (at_builtin;refine bY _ rfl (.tmp 5) (.tmp 6) _ rfl w.heap.size 3 i0 (.int .i64 0) 1 8 Tryz.underlying22 hi0 hz0 hz1 hz2 rfl dC (.slice (some ⟨w.heap.size,0,none⟩) 0 0) 0 [] rfl (nC w 3 1) w.heap.size (some a) n c _ rfl ((Hr.out.mono hB).alloc nL _) (oO _) (by unfold maxLen;omega) oM (by simp) ?_;intro v5 w5 hown5 hg5 hat5);have hB5:=aW ((Below.refl w.heap.size w).alloc nL _) (nC w 3 1) hg5 (by simp);rw [zBi,List.nil_append] at hown5;obtain ⟨A',c',rfl,hm⟩:=aS hown5;go_wp2;go_ret;exact ⟨A',c',rfl,hm,hB5⟩
@[irreducible] def tcells (L:List Nat):Array Value:=Array.ofFn (n:=258) fun i=>.int .i64 (((if i.val < 257 then L.count i.val else L.length):Nat):Int)
theorem dN (L:List Nat) {s:Nat} (h:s < 257):(tcells L)[s]?=some (.int .i64 ((L.count s:Nat):Int)):=by
 unfold tcells;rw [Array.getElem?_ofFn,dif_pos oM,zBx h]
theorem gL (L:List Nat):(tcells L)[257]?=some (.int .i64 ((L.length:Nat):Int)):=by
 unfold tcells;rw [Array.getElem?_ofFn,dif_pos oM];rfl
theorem eF (L:List Nat):(tcells L).size=258:=by unfold tcells;simp
theorem oI (cs:Array Value) (L:List Nat) (h0:cs.size=258) (h1:∀s,s < 257->cs[s]?=some (.int .i64 ((L.count s:Nat):Int))) (h2:cs[257]?=some (.int .i64 ((L.length:Nat):Int))):cs=tcells L:=by
 apply Array.ext_getElem?;intro i;rcases zBe i 257 with h | h
 · rw [h1 i h,dN L h]
 · rcases Nat.eq_or_lt_of_le h with h | h
   · rw [<-h,h2,gL]
   · rw [Array.getElem?_eq_none oM,Array.getElem?_eq_none (by rw [eF];omega)]
theorem aCt (L:List Nat) (s:Nat) (hs:s < 257):((tcells L).setIfInBounds s (.int .i64 (((L.count s+1:Nat)):Int))).setIfInBounds 257 (.int .i64 ((L.length+1:Nat):Int))=tcells (L++ [s]):=by
 apply oI
 · simp [eF]
 · intro i hi;rw [zCe oM];by_cases e:s=i
   · subst e;rw [Array.getElem?_setIfInBounds_self_of_lt (by rw [eF];omega)];simp
   rw [zCe e,dN L hi];have: [s].count i=0:=(by simp [e]);rw [zCc,this];rfl
 · rw [Array.getElem?_setIfInBounds_self_of_lt (by simp [eF])];simp
theorem sK (gt:Nat) (L:List Nat) (s:Nat) (w:World) (h:Bk w gt 229 (tcells L)) (hs:s < 257):
 Calls Tryz.prog 155 #[.pointer (some ⟨gt,0,none⟩),.int .i64 (s:Int)] w fun e w'=>e=.returned (.int .i64 ((L.count s:Nat):Int))/\Below w.heap.size w w':=by
 have H:=lhd h;clear h;go_enter Tryz.func155,Tryz.ntmps155;go_wp2_with fail;refine (eT s _ hs).mono ?_;rintro e w1 ⟨rfl,hb⟩;have c0:w1.cell? ⟨gt,s,none⟩=some (.int .i64 ((L.count s:Nat):Int)):=((H.out.below hb H.out.lt).cell s).trans (dN L hs);have h0:¬((s:Int) < 0):=oM;have h1:((s:Int) < 257):=oM;clear H;go_wp2_with fail;go_ret;exact ⟨rfl,hb⟩
theorem sG (L:List Nat) (k:Nat):L.countP (fun x=>decide (x < k+1))=L.countP (fun x=>decide (x < k))+L.count k:=by
 induction L with
 | nil=>rfl
 | cons x l ih=>
   rw [zBn,zBn,List.count_cons,ih];by_cases h1:x < k;have h2:x < k+1:=oM;have h3:x≠k:=oM;simp [h1,h2,h3];omega
   · by_cases h2:x=k;subst h2;simp;omega
     · have h3:¬x < k+1:=oM;simp [h1,h2,h3]
theorem jF (gt:Nat) (L:List Nat) (s:Nat) (w:World) (h:Bk w gt 229 (tcells L)) (hs:s < 257) (hl:L.length<=1000):
 Calls Tryz.prog 156 #[.pointer (some ⟨gt,0,none⟩),.int .i64 (s:Int)] w fun e w'=>e=.returned (.int .i64 ((L.countP (fun x=>decide (x < s)):Nat):Int))/\Below w.heap.size w w':=by
 have H:=lhd h;clear h;have m1:max (s:Int) 0=(s:Int):=oM;have m2:min (s:Int) 257=(s:Int):=oM;go_enter Tryz.func156,Tryz.ntmps156;go_wp2_with fail;go_loopw [5,10] (fun v i wr=>∃k:Nat,k<=s/\i=.int .i64 k/\v=.int .i64 ((L.countP (fun x=>decide (x < k)):Nat):Int)/\Below w.heap.size w wr) (fun _ i _=>s -(intOf i).toNat)
 case atStart=>exact ⟨0,by omega,rfl,by simp,Below.refl _ _⟩
 case round=>
  obtain ⟨k,hk,rfl,rfl,hb⟩:=hrel;have hsz:=hb.size;by_cases hlt:k < s
  · go_wp2_with fail;refine (sK gt L k wr (H.out.below hb H.out.lt) oM).mono ?_;rintro e w1 ⟨rfl,hb1⟩;have hb2:=hb.trans (hb1.mono hsz);have hst:=sG L k;have hbd:L.countP (fun x=>decide (x < k+1))<=1000:=zAk zBh hl;obtain ⟨p,hp⟩:∃p,L.countP (fun x=>decide (x < k))=p:=⟨_,rfl⟩;obtain ⟨q,hq⟩:=eqx (L.count k);rw [hst] at hbd;rw [hp,hq] at hst hbd;rw [hq]
    try rw [hp]
    have HS:=lhd hst;clear hst hp hq;go_wp2_with fail;go_roundw
    case rel=>exact ⟨k+1,by omega,by go_num,by rw [HS.out];exact eB oM,hb2⟩
    case measure=>simp [intOf];omega
  · have hks:k=s:=oM;subst hks;go_wp2_with fail;go_ret;exact ⟨rfl,hb⟩
theorem qH (gt:Nat) (L:List Nat) (s:Nat) (w:World) (h:Bk w gt 229 (tcells L)) (hs:s < 257) (hl:L.length<=1000):
 Calls Tryz.prog 134 #[.pointer (some ⟨gt,0,none⟩),.int .i64 (s:Int),.int .i64 1] w fun e w'=>e=.returned (.int .i64 0)/\Bk w' gt 229 (tcells (L++ [s]))/\Keep (fun b=>b=gt) w w':=by
 have H:=lhd h;clear h;have h0:¬((s:Int) < 0):=oM;have h1:((s:Int) < 257):=oM;obtain ⟨q,hq⟩:=eqx (L.count s);obtain ⟨n,hn⟩:=eqx L.length;have hql:q<=1000:=by rw [<-hq];exact zAk zBv hl
 rw [hn] at hl;have hadd:=aCt L s hs;rw [hq,hn] at hadd;obtain ⟨HA,HQ,HN⟩:=hqq3 hadd hq hn;clear hadd hq hn;go_enter Tryz.func134,Tryz.ntmps134;go_wp2_with fail;refine (eT s _ hs).mono ?_;rintro e w1 ⟨rfl,hb⟩;have hbk:=H.out.below hb H.out.lt;have c0:w1.cell? ⟨gt,s,none⟩=some (.int .i64 (q:Int)):=by rw [<-HQ.out];exact (hbk.cell s).trans (dN L hs)
 have c1:w1.cell? ⟨gt,257,none⟩=some (.int .i64 (n:Int)):=by rw [<-HN.out];exact (hbk.cell 257).trans (gL L)
 have n1:¬((1:Int) < -(q:Int)):=oM;have n2:¬((1:Int) > 2147483648 -(n:Int)):=oM;obtain ⟨HB,Hbk⟩:=hqq2 hb hbk;clear hb hbk H;go_wp2_with fail;refine wp_region_any kR ?_;refine cB [33,34,35,36,37,38,39,40,41,42,43] (fun b=>b=gt) 11 [5,11] (fun w2=>Bk w2 gt 229 (tcells L)) (fun _ w2=>Bk w2 gt 229 ((tcells L).setIfInBounds s (.int .i64 ((q+1:Nat):Int)))) [is (.pointer (some ⟨gt,0,none⟩)),is (.int .i64 (s:Int)),is (.pointer (some ⟨gt,0,none⟩)),is (.pointer (some ⟨gt,0,none⟩)),is (.pointer (some ⟨gt,s,none⟩)),is (.int .i64 (q:Int)),is (.int .i64 1),is (.int .i64 ((q+1:Nat):Int)),is (.pointer (some ⟨gt,0,none⟩)),is (.pointer (some ⟨gt,0,none⟩)),is (.pointer (some ⟨gt,s,none⟩)),dJ] _ _ rfl kR kR (Hbk.out) (fun w2 w3 h _ hg=>Bk.below h hg h.lt) (fun _ _ _ h k=>Bk.below h k h.lt) (by repeat' (first | exact cL _ _ | exact bV _ |(refine zAe.2 ⟨?_,?_⟩)|(intro p hp;cases hp))) ?_ ?_
 · refine aT ?_;refine pH3 0 (.pointer (some ⟨gt,0,none⟩)) ?_;refine pH3 1 (.int .i64 (s:Int)) ?_;refine pV3 0 33 ?_;refine pV3 2 35 ?_;refine pW3 3 36 1 34 ?_;refine sC3 (fun _ w5 _ hU _ _ _ hval _ _ _ hK=>?_) ?_
   · have hpre:=hU rfl;have e37:_=_:=hval 4 37 kR rfl;have c38:w5.cell? ⟨gt,s,none⟩=some (.int .i64 (q:Int)):=(by rw [<-HQ.out];exact (hpre.cell s).trans (dN L hs));go_simp;exact kq hK rfl
   refine pH3 2 (.int .i64 1) ?_;refine sC3 (fun _ _ _ _ _ _ _ hval _ _ _ hK=>?_) ?_
   · have e38:_=_:=hval 5 38 kR rfl;have e39:_=_:=hval 6 39 kR rfl;go_simp;exact hK _ _ (aP bR) (eB (by rw [IntKind.wrap_i64];omega))
   refine pV3 0 33 ?_;refine pV3 8 41 ?_;refine pW3 9 42 1 34 ?_;refine sC3 (fun _ w5 _ hU _ _ _ hval _ _ _ hK=>?_) ?_
   · have hpre:=hU rfl;have e43:_=_:=hval 10 43 kR rfl;have e40:_=_:=hval 7 40 kR rfl;have c43:w5.cell? ⟨gt,s,none⟩=some (.int .i64 (q:Int)):=(by rw [<-HQ.out];exact (hpre.cell s).trans (dN L hs));have f43:=hpre.frozen s;go_simp;exact hK (.bool true) _ (bG (Keep.setCell (F:=fun b=>b=gt) (Keep.refl _ _) (p:=⟨gt,s,none⟩) (.inl rfl) _)) (hpre.set s _)
   exact aG
 · intro ev w6 hS hval hall;replace hS:Keep (fun b=>b=gt) w1 w6:=kD hS;obtain ⟨vJ,pJ⟩:∃vJ0,(fun _ w2=>Bk w2 gt 229 ((tcells L).setIfInBounds s (.int .i64 ((q+1:Nat):Int)))) vJ0 w6:=hall 11 dC;simp only [aO,zq1,zq2,Act.put,zq3,zq4,zq5];clear hval hall;have c257:w6.cell? ⟨gt,257,none⟩=some (.int .i64 (n:Int)):=(by refine (pJ.cell 257).trans ?_;rw [zCe oM,<-HN.out];exact gL L);have f257:=pJ.frozen 257;obtain ⟨PJ,HS⟩:=hqq2 pJ hS;have hglt:=pJ.lt;clear pJ hS;go_wp2_with fail;go_ret;refine ⟨rfl,?_,?_⟩;rw [<-HA.out];exact PJ.out.set 257 _;exact ((Keep.of_below HB.out).trans HS.out).setCell (.inl rfl) _
theorem aCs:tcells []=Tryz.zeroCells229:=by kernel_rfl
theorem qG (A:Option Addr) (m c B:Nat) (L:List Nat) (w:World) (hr:Rd w B 1 A m (L.map sv)) (hB:B<=w.heap.size) (hm:m<=1000) (hL:∀s∈L,s < 257):
 Calls Tryz.prog 154 #[.slice A m c] w fun e w'=>∃gt,e=.returned (.tuple #[.pointer (some ⟨gt,0,none⟩),.int .i64 0])/\w.heap.size<=gt/\Bk w' gt 229 (tcells L)/\Below w.heap.size w w':=by
 have hll:L.length=m:=by simpa using hr.1
 obtain ⟨Hr,HL,Hll,HB⟩:=hqq4 hr hL hll hB;clear hr hL hll;go_enter Tryz.func154,Tryz.ntmps154;go_wp2_with fail;obtain ⟨gt,hgt⟩:=eqx w.heap.size;have hbk0:Bk (w.alloc (.cells Tryz.zeroCells229 229)) gt 229 (tcells (L.take 0)):=by rw [List.take_zero,aCs,<-hgt];exact Bk.new _ _ _
 have hb0:=(Below.refl w.heap.size w).alloc nL (.cells Tryz.zeroCells229 229)
 try rw [hgt]
 go_loopw [12] (fun i wr=>∃k:Nat,k<=m/\i=.int .i64 k/\Bk wr gt 229 (tcells (L.take k))/\Below w.heap.size w wr) (fun i _=>m -(intOf i).toNat)
 case atStart=>exact ⟨0,by omega,rfl,hbk0,hb0⟩
 case round=>
  obtain ⟨k,hk,rfl,hbk,hb⟩:=hrel;have hsz:=hb.size;by_cases hlt:k < m
  · have hkl:k < L.length:=(by rw [Hll.out];exact hlt);obtain ⟨s,hs⟩:∃s,L[k]?=some s:=⟨L[k],zAa hkl⟩;obtain ⟨b,off,u,rfl,hbl,hu,hc⟩:=((Hr.out.mono HB.out).below hb).get hlt;rw [zAf,hs] at hu;simp at hu;subst hu;have hs257:s < 257:=HL.out s (zAd hs);have htk:L.take (k+1)=L.take k++ [s]:=(by rw [zAv,hs];rfl);have htl:(L.take k).length<=1000:=(by rw [zAj];omega);unfold sv at hc;obtain ⟨HTK,Hbk⟩:=hqq2 htk hbk;clear htk hbk hs;go_wp2_with fail;refine (qH gt (L.take k) s _ Hbk.out hs257 htl).mono ?_;rintro e w1 ⟨rfl,hb1,hk1⟩;have hb2:Below w.heap.size w w1:=hb.trans (hk1.to_below hsz (fun b hb e=>by omega));rw [<-HTK.out] at hb1;have Hb1:=lhd hb1;clear hb1 hk1;go_wp2_with fail;go_roundw
    case rel=>exact ⟨k+1,by omega,by go_num,Hb1.out,hb2⟩
    case measure=>simp [intOf];omega
  · have hkm:k=m:=oM;subst hkm;rw [zAg (by rw [Hll.out];omega)] at hbk;have Hbk:=lhd hbk;clear hbk;go_wp2_with fail;go_ret2;exact ⟨gt,rfl,by omega,Hbk.out,hb⟩
end Go.Proofs.YtnhmjomhloainaaGreatDoor
