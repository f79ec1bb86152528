/- Parts of the walk, joined from several texts. Conditions: what each lemma says. -/
import Derived.Test.YtnhmjomhloainaaGreatDoorPq34
set_option linter.all false
set_option maxRecDepth 100000
set_option maxHeartbeats 4000000
namespace Go.Proofs.YtnhmjomhloainaaGreatDoor
open Go.RowKit
theorem Made.lf {w w':World} {B0 B:Nat} {own own':Nat->Nat} {e:TypeId} {sz n c:Nat} {A:Option Addr} {xs:List Value} (h:Made w B e sz A n c xs) (k:LF B0 w w' own own') (h1:e≠223) (h2:e≠170) (hB:∀b,B<=b->own b=0):Made w' B e sz A n c xs:=by
 have h3:w'.ownsRow B e sz (.slice A n c) n xs:=by refine ⟨h.own.1,?_⟩;rcases h.own.2 with q |⟨g,cap,cur,q1,q2,q3,q4⟩;exact .inl q;exact .inr ⟨g,cap,cur,q1,q2,k.vis.bk q3 h1 h2 (fun f=>f (hB g q2)),q4⟩
 exact ⟨h3,Rd.of_own h3,h.cap,h.max⟩
theorem aIj {w:World} {g:Nat} {t:TypeId} {cs:Array Value} {n:Nat} (h:Bk w g t cs) (hs:cs.size=n):Rd w w.heap.size 1 (some ⟨g,0,none⟩) n cs.toList:=by
 refine ⟨by simp [hs],fun _=>⟨_,0,rfl,h.lt,fun j u hu=>?_⟩⟩;rw [zBi,h.cell];simpa using hu
def wV (w:World) (N rate most:Nat) (e:Ending) (w':World):Prop:=
 e=.returned (.tuple #[.agg (iC most rate N),.int .i64 0])/\VB w.heap.size w w'
theorem aGo {w w':World} {tmps:Array Value} {g rate most N:Nat} (hp:tmps.getD 2 undef=.pointer (some ⟨g,0,none⟩)) (h3:tmps.getD 3 undef=.int .i64 0) (hb:Bk w' g 40 (iC most rate N)) (hv:VB w.heap.size w w'):
 bodyPost Tryz.prog Tryz.f74 (fun e w'=>e=.returned (.tuple #[.agg (iC most rate N),.int .i64 0])/\VB w.heap.size w w') .ret ⟨tmps, []⟩ w':=by
 have hr:=aCH (P:=Tryz.prog) (fn:=Tryz.f74) (p:=2) (b:=3) (ty:=40) rfl tmps w' g 40 (iC most rate N) (0,0) _ hp hb Tryz.underlying40 rfl kR;rw [h3] at hr;exact bodyPost_ret hr rfl ⟨rfl,hv⟩
theorem aAw (A:Option Addr) (c Bs most rate n:Nat) (t:List UInt8) (rs:List Nat) (w:World) (hs:IsSuf (aD t) rs) (hn:t.length<=127) (hr1:1<=rate) (hr2:rate<=64) (hm1:t.length<=most) (hm2:most<=2147483648)
 (hnn:(cG (aE (aD t) rs) rs most rate t.length).length=n) (hr:Rd w Bs 1 A n ((cG (aE (aD t) rs) rs most rate t.length).map bv)) (hB:Bs<=w.heap.size) (hcl:n<=c) (hcm:c<=maxLen):
 Calls Tryz.prog 74 #[.slice A n c] w (wV w t.length rate most):=by
 have hld:=fun (w1:World) (h1:Rd w1 w1.heap.size 1 A n ((cG (aE (aD t) rs) rs most rate t.length).map bv))=>lI A c w1.heap.size most rate t rs w1 hs hn hr1 hr2 hm1 hm2 (by rw [hnn];exact h1) nL (by rw [hnn];exact hcl) hcm;rw [hnn] at hld;unfold mP at hld;unfold wV;obtain ⟨N,hN⟩:=eqx t.length;have Hr:=lhd hr;rw [hN] at hld⊢;have hrr:=(hr.mono hB).alloc nL (.cells #[.int .i64 0,.int .i64 0,.int .i64 0] 40);rw [hN] at hrr;have hl1:=hld _ (hrr.mono (by simp));clear hld hr hnn hrr;go_enter Tryz.func74,Tryz.ntmps74;go_wp2_with fail;refine hl1.mono ?_;clear hl1;rintro e w1 ⟨gl,rfl,ht,hv⟩;unfold iC;have hb0:Below w.heap.size w (w.alloc (.cells #[.int .i64 0,.int .i64 0,.int .i64 0] 40)):=bR.alloc nL _;have hv1:VB w.heap.size w w1:=(VisK.of_below hb0).trans ⟨hv.1,hv.2.mono fun b _ h=>by simp at h;omega⟩;have hh1:Bk w1 w.heap.size 40 #[.int .i64 0,.int .i64 0,.int .i64 0]:=hv.1.bk (Bk.new w _ _) dC dC;have c0:=hh1.cell 0;have c1:=hh1.cell 1;have c2:=hh1.cell 2;have f0:=hh1.frozen 0;have f1:=hh1.frozen 1;have f2:=hh1.frozen 2;obtain ⟨Hv1,Hh1⟩:=hqq2 hv1 hh1;have hlt1:=hh1.lt;clear hv hv1 hh1 hb0 ht;go_wp2_with fail;have hfin:=(((Hh1.out.set 0 (.int .i64 (most:Int))).set 1 (.int .i64 (rate:Int))).set 2 (.int .i64 (N:Int))).alloc (.cells #[.int .i64 (most:Int),.int .i64 (rate:Int),.int .i64 (N:Int)] 40);have hbl:=((((Below.refl w.heap.size w1).setCell (p:=⟨w.heap.size,0,none⟩) nL (.int .i64 (most:Int))).setCell (p:=⟨w.heap.size,1,none⟩) nL (.int .i64 (rate:Int))).setCell (p:=⟨w.heap.size,2,none⟩) nL (.int .i64 (N:Int))).alloc (by simp [World.setCell];omega) (.cells #[.int .i64 (most:Int),.int .i64 (rate:Int),.int .i64 (N:Int)] 40);exact aGo rfl rfl (by simpa [iC] using hfin) (VB.grow Hv1.out hbl)
theorem aBu {w':World} {Q:World->Prop} {tmps:Array Value} {g:Nat} {k:Int} {cs:Array Value} (hp:tmps.getD 3 undef=.pointer (some ⟨g,0,none⟩)) (h2:tmps.getD 2 undef=.pointer none) (h4:tmps.getD 4 undef=.int .i64 k) (hb:Bk w' g 40 cs) (hz:cs.size=3) (hQ:Q w'):
 bodyPost Tryz.prog Tryz.f22 (fun e w'=>e=.returned (.tuple #[.pointer none,.agg cs,.int .i64 k])/\Q w') .ret ⟨tmps, []⟩ w':=by
 have hr:=lY (P:=Tryz.prog) (fn:=Tryz.f22) (a:=2) (p:=3) (b:=4) (ty:=40) rfl tmps w' g 40 cs (0,0) _ hp hb Tryz.underlying40 rfl (by rw [hz];kernel_rfl);rw [h2,h4] at hr;exact bodyPost_ret hr rfl ⟨rfl,hQ⟩
theorem aCa (w:World):
 Calls Tryz.prog 22 #[.slice none 0 0] w fun e w'=>e=.returned (.tuple #[.pointer none,.agg #[.int .i64 0,.int .i64 0,.int .i64 0],.int .i64 4])/\Below w.heap.size w w':=by
 go_enter Tryz.func22,Tryz.ntmps22;go_wp2_with fail;have hb:=(Bk.new w 40 #[.int .i64 0,.int .i64 0,.int .i64 0]);exact aBu (Q:=fun w'=>Below w.heap.size w w') rfl rfl rfl hb rfl (bR.alloc nL _)
theorem aB9 (A:Option Addr) (n m c B x y:Nat) (b:List UInt8) (w:World) (hr:Rd w B 1 A n (b.map bv)) (hB:B<=w.heap.size) (hm:n=m+4) (hm4:4<=m) (hnc:n<=c) (hmm:m<=1099511627775) (hof:ofB b (m:Int)=(x,0)) (hy:gJ (b.take m)=y) (hne:¬x=y):
 Calls Tryz.prog 22 #[.slice A n c] w fun e w'=>e=.returned (.tuple #[.pointer none,.agg #[.int .i64 0,.int .i64 0,.int .i64 0],.int .i64 5])/\Below w.heap.size w w':=by
 subst hm;have hofc:=fun (w1:World) (h1:Rd w1 B 1 A (m+4) (b.map bv))=>aH8 A (m+4) c b (m:Int) B w1 x 0 hof h1 (by unfold maxLen;omega);have hrb:=hr.cut_hi0 (k:=m) (cap:=c) oM;rw [zBl,<-List.map_take] at hrb;have hcof:=fun (AP:Option Addr) (w1:World) (h1:Rd w1 w1.heap.size 1 (dX A c 0 1) m ((b.take m).map bv)) (h2:Rd w1 w1.heap.size 1 AP 1 [.slice (dX A c 0 1) m c])=>nU (dX A c 0 1) AP m c 1 (b.take m) w1 h1 oM h2;rw [hy] at hcof;obtain ⟨Hr,Hrb,Hcof,Hofc⟩:=hqq4 hr hrb hcof hofc;have e1:IntKind.i64.wrap (((m+4:Nat):Int) - 4)=(m:Int):=by rw [IntKind.wrap_i64];omega
 have kc:=kS (P:=Tryz.prog) 23 5 1 Tryz.underlying23 (fun w=>by kernel_rfl) A (m+4) c m oM;have n1:¬((x:Int)=(y:Int)):=oM;clear hr hrb hcof hofc hof hy;go_enter Tryz.func22,Tryz.ntmps22;go_wp2_with fail;have hh0:=Bk.new w 40 #[.int .i64 0,.int .i64 0,.int .i64 0];have hb0:Below w.heap.size w (w.alloc (.cells #[.int .i64 0,.int .i64 0,.int .i64 0] 40)):=bR.alloc nL _;refine (Hofc.out _ (Hr.out.below (hb0.mono hB))).mono ?_;rintro e w1 ⟨rfl,rfl⟩;go_wp2_with fail;have hR1:=Hrb.out.below (hb0.mono hB);refine (Hcof.out _ _ (((hR1.mono (by simp;omega)).alloc nL _).mono (by simp)) (Rd.made' _ _ 1 1 _ _ rfl (by simp))).mono ?_;rintro e w2 ⟨rfl,hb2⟩;have hb12:=((hb0.alloc (by simp) (.cells #[.slice (dX A c 0 1) m c] 23)).trans (hb2.mono (by simp;omega)));have hh2:Bk w2 w.heap.size 40 #[.int .i64 0,.int .i64 0,.int .i64 0]:=(hh0.alloc (.cells #[.slice (dX A c 0 1) m c] 23)).below hb2 (by simp;omega);have c0:w2.cell? ⟨w.heap.size,0,none⟩=some (.int .i64 0):=hh2.cell 0;have c1:w2.cell? ⟨w.heap.size,1,none⟩=some (.int .i64 0):=hh2.cell 1;have c2:w2.cell? ⟨w.heap.size,2,none⟩=some (.int .i64 0):=hh2.cell 2;have f0:=hh2.frozen 0;have f1:=hh2.frozen 1;have f2:=hh2.frozen 2;obtain ⟨Hh2,Hb12⟩:=hqq2 hh2 hb12;clear hh2 hb12 hb2 hR1;go_wp2_with fail;have hs:=((Hh2.out.set 0 (.int .i64 0)).set 1 (.int .i64 0)).set 2 (.int .i64 0);exact aBu (Q:=fun w'=>Below w.heap.size w w') rfl rfl rfl (by simpa using hs) rfl (((Hb12.out.setCell (p:=⟨w.heap.size,0,none⟩) nL _).setCell (p:=⟨w.heap.size,1,none⟩) nL _).setCell (p:=⟨w.heap.size,2,none⟩) nL _)
structure StAt (w:World) (B:Nat) (own:Nat->Nat) (gs gl most rate:Nat) (t:List UInt8):Prop where
 blk:Bk w gs 136 #[.pointer (some ⟨gl,0,none⟩),.int .i64 (most:Int)]
 low:B<=gs
 col:own gs=0
 live:LiveE w B own gl t rate
 n127:t.length<=127
 len:t.length<=most
 max:most<=2147483648
 r1:1<=rate
 r2:rate<=64
section
variable {w w' : World} {B gs gl most rate : Nat} {own own' : Nat -> Nat} {t : List UInt8}
theorem StAt.tp (h:StAt w B own gs gl most rate t):TpAt w B gl t rate:=h.live.tp h.n127
theorem StAt.vb (h:StAt w B own gs gl most rate t) (k:Vis w w'):StAt w' B own gs gl most rate t:=
 ⟨k.bk h.blk dC dC,h.low,h.col,h.live.vis k,h.n127,h.len,h.max,h.r1,h.r2⟩
theorem StAt.size (h:StAt w B own gs gl most rate t):B<=w.heap.size:=by have:=h.low;have:=h.blk.lt;omega
theorem StAt.fresh (h:StAt w B own gs gl most rate t) {b:Nat} (hb:w.heap.size<=b):own b=0:=Nat.eq_zero_of_not_pos fun c=>by have:=(h.live.bnd b oM).2;omega
theorem StAt.llen {N:Nat} (h:StAt w B own gs gl most rate t) (hN:t.length=N):Calls Tryz.prog 55 #[.pointer (some ⟨gl,0,none⟩)] w fun e w'=>e=.returned (.int .i64 (N:Int))/\w=w':=by
 obtain ⟨rs,gk,gp,pr,hs,hl,hrt,hz0,hn127⟩:=h.tp;exact bQ B gl _ N w hl.lvw (by rw [bJ,hs.len,aJ,hN]) oM
end
structure LFS (B gs:Nat) (w w':World) (own own':Nat->Nat):Prop where
 old:∀b,b < w.heap.size->own' b≠0->own b≠0
 vis:VisF (fun b=>own b≠0∨b=gs) w w'
 keep:Keep (fun b=>B<=b) w w'
section
variable {B gs : Nat} {w w1 w' : World} {own own1 own' : Nat -> Nat}
theorem LFS.refl (B gs:Nat) (w:World) (own:Nat->Nat):LFS B gs w w own own:=⟨fun _ _ h=>h,VisF.of_vis (Vis.refl w),Keep.refl _ _⟩
theorem LFS.size (h:LFS B gs w w' own own'):w.heap.size<=w'.heap.size:=h.keep.size
theorem LFS.trans (h:LFS B gs w w1 own own1) (k:LFS B gs w1 w' own1 own'):LFS B gs w w' own own':=by
 have hs:=h.keep.size;refine ⟨fun b hb f=>h.old b hb (k.old b oM f),h.vis.trans' k.vis fun b hb f=>?_,h.keep.trans k.keep⟩;rcases f with f | f;exact .inl (h.old b hb f);exact .inr f
theorem LFS.of_lf (gs:Nat) (k:LF B w w' own own'):LFS B gs w w' own own':=⟨fun b hb f=>by rw [<-k.old b hb];exact f,k.vis.mono fun b _ f=>.inl f,k.keep⟩
theorem LFS.of_vb (gs:Nat) (own:Nat->Nat) (k:VB B w w'):LFS B gs w w' own own:=⟨fun _ _ h=>h,VisF.of_vis k.1,k.2⟩
theorem LFS.of_below (B gs:Nat) (own:Nat->Nat) (k:Below w.heap.size w w'):LFS B gs w w' own own:=LFS.of_vb gs own (VisK.of_below k)
theorem LFS.below (k:LFS B gs w w' own own') (hB:B<=w.heap.size):Below B w w':=k.keep.to_below hB fun b hb f=>by have f':B<=b:=f;omega
theorem LFS.zero (k:LFS B gs w w' own own') {b:Nat} (hb:b < w.heap.size) (h0:own b=0):own' b=0:=by
 by_cases c:own' b=0;exact c;exact absurd h0 (k.old b hb c)
theorem LFS.bk (k:LFS B gs w w' own own') {b:Nat} {t:TypeId} {cs:Array Value} (h:Bk w b t cs) (h0:own b=0) (hg:b≠gs) (h1:t≠223) (h2:t≠170):Bk w' b t cs:=
 k.vis.bk h h1 h2 fun f=>f.elim (fun f=>f h0) hg
structure Ap (own:Nat->Nat) (gs b:Nat):Prop where
 col:own b=0
 ne:b≠gs
theorem Ap.step {b:Nat} (h:Ap own gs b) (k:LFS B gs w w' own own') (hb:b < w.heap.size):Ap own' gs b:=⟨k.zero hb h.col,h.ne⟩
def MadeZ (w:World) (own:Nat->Nat) (gs:Nat) (e:TypeId) (A:Option Addr) (n c:Nat) (xs:List Value):Prop:=Made w 0 e 1 A n c xs/\∀a,A=some a->a.block < w.heap.size/\Ap own gs a.block
theorem MadeZ.step {e:TypeId} {A:Option Addr} {n c:Nat} {xs:List Value} (h:MadeZ w own gs e A n c xs) (k:LFS B gs w w' own own') (h1:e≠223) (h2:e≠170):MadeZ w' own' gs e A n c xs:=by
 have h3:w'.ownsRow 0 e 1 (.slice A n c) n xs:=aB h.1.own fun b cs hb hbk=>by
  rcases A with _ | a
  · cases hb
  have e1:a.block=b:=(by simpa [Value.ownBlock] using hb);have:=(h.2 a rfl).2;rw [e1] at this;exact k.bk hbk this.col this.ne h1 h2
 refine ⟨⟨h3,Rd.of_own h3,h.1.cap,h.1.max⟩,fun a ha=>?_⟩;have:=h.2 a ha;exact ⟨zAl this.1 k.size,this.2.step k this.1⟩
def ArgZ (w:World) (B:Nat) (own:Nat->Nat) (gs:Nat) (A:Option Addr) (n:Nat) (D:List UInt8):Prop:=
 Rd w w.heap.size 1 A n (D.map bv)/\(0 < n->∀a,A=some a->a.block < B∨(Ap own gs a.block/\∃cs fr,w.heap[a.block]?=some (.cells cs 5 fr)))
theorem VisF.same {F:Nat->Prop} {b:Nat} {cs:Array Value} {t:TypeId} {fr:Nat×Nat} (k:VisF F w w') (h:w.heap[b]?=some (.cells cs t fr)) (hn:¬F b) (h1:t≠223) (h2:t≠170):w'.heap[b]?=w.heap[b]?:=by
 rcases k.block b (lt_of_block h) hn with e |⟨cs',v,e1,e2⟩|⟨cs',v,e1,e2⟩;exact e;exfalso;unfold Bk at e1;rw [h] at e1;injection e1 with e1;injection e1 with _ e1;exact h1 e1;exfalso;unfold Bk at e1;rw [h] at e1;injection e1 with e1;injection e1 with _ e1;exact h2 e1
theorem ArgZ.step {A:Option Addr} {n:Nat} {D:List UInt8} (h:ArgZ w B own gs A n D) (k:LFS B gs w w' own own'):ArgZ w' B own' gs A n D:=by
 have hs:=k.size;rcases zBa n with h0 | h0;subst h0;have:D= []:=(by simpa using h.1.1);subst this;exact ⟨Rd.nil _ _ _ _,fun hh=>absurd hh oM⟩;obtain ⟨b,off,rfl,hb,hc⟩:=h.1.2 h0;have hsame:w'.heap[b]?=w.heap[b]?:=(by rcases h.2 h0 _ rfl with q |⟨q,cs,fr,e⟩;exact k.keep.block b hb (by have q':b < B:=q;omega);exact k.vis.same e (fun f=>f.elim (fun f=>f q.col) q.ne) dC dC);refine ⟨⟨h.1.1,fun _=>⟨b,off,rfl,by omega,fun j u hu=>by rw [<-hc j u hu];exact World.cell?_of_block hsame⟩⟩,fun _ a ha=>?_⟩;injection ha with ha;subst ha;rcases h.2 h0 _ rfl with q |⟨q,cs,fr,e⟩;exact .inl q;exact .inr ⟨q.step k hb,cs,fr,hsame.trans e⟩
theorem ArgZ.old {B0:Nat} {A:Option Addr} {n:Nat} {D:List UInt8} (h:Rd w B0 1 A n (D.map bv)) (hB0:B0<=B) (hB:B<=w.heap.size):ArgZ w B own gs A n D:=
 ⟨h.mono oM,fun h0 a ha=>by
  obtain ⟨b,off,e,hb,_⟩:=h.2 h0;rw [e] at ha;injection ha with ha;subst ha;exact .inl (by show b < B;omega)⟩
theorem ArgZ.made {A:Option Addr} {n c:Nat} {D:List UInt8} (h:MadeZ w own gs 5 A n c (D.map bv)):ArgZ w B own gs A n D:=
 ⟨h.1.rd,fun h0 a ha=>by
   have h1:=(h.2 a ha).2
   obtain ⟨g,cap,cur,e1,_,e2,_⟩:=h.1.own.2.resolve_left (fun q=>by
     have:=q.1;injection this with q1;rw [q1] at ha;cases ha)
   injection e1 with e1;rw [e1] at ha;injection ha with ha;subst ha;exact .inr ⟨h1,cur,_,e2⟩⟩
theorem ArgZ.vis {A:Option Addr} {n:Nat} {D:List UInt8} (h:ArgZ w B own gs A n D) (k:Below w.heap.size w w'):ArgZ w' B own gs A n D:=h.step (LFS.of_below B gs own k)
theorem StAt.far {gl most rate:Nat} {t:List UInt8} {H:Nat->Prop} (h:StAt w B own gs gl most rate t) (k:Keep H w w') (hH:∀b,H b->Ap own gs b):StAt w' B own gs gl most rate t:=
 ⟨k.bk h.blk fun f=>(hH _ f).ne rfl,h.low,h.col,h.live.far0 k fun b f=>(hH b f).col,h.n127,h.len,h.max,h.r1,h.r2⟩
def Two (own1:Nat->Nat) (gs1:Nat) (own2:Nat->Nat) (gs2:Nat):Prop:=∀b,own1 b≠0∨b=gs1->Ap own2 gs2 b
end
theorem StAt.other {w w':World} {B B1 gs1 gs2 gl2 most2 rate2:Nat} {own1 own1' own2:Nat->Nat} {t2:List UInt8} (h:StAt w B own2 gs2 gl2 most2 rate2 t2) (k:LFS B1 gs1 w w' own1 own1') (ht:Two own1 gs1 own2 gs2):StAt w' B own2 gs2 gl2 most2 rate2 t2/\Two own1' gs1 own2 gs2:=by
 refine ⟨⟨k.vis.bk h.blk dC dC fun f=>(ht _ f).ne rfl,h.low,h.col,h.live.visF k.vis fun b f=>(ht b f).col,h.n127,h.len,h.max,h.r1,h.r2⟩,fun b hb=>?_⟩;rcases hb with hb | hb;by_cases c:b < w.heap.size;exact ht b (.inl (k.old b c hb));exact ⟨h.fresh oM,by have:=h.blk.lt;omega⟩;exact ht b (.inr hb)
theorem Two.step2 {w w':World} {B B1 gs1 gs2 gl1 most1 rate1:Nat} {own1 own2 own2':Nat->Nat} {t1:List UInt8} (ht:Two own1 gs1 own2 gs2) (h:StAt w B own1 gs1 gl1 most1 rate1 t1) (k:LFS B1 gs2 w w' own2 own2'):Two own1 gs1 own2' gs2:=fun b hb=>by
 have hlt:b < w.heap.size:=by rcases hb with hb | hb;exact (h.live.bnd b hb).2;rw [hb];exact h.blk.lt
 exact (ht b hb).step k hlt
theorem Two.symm {own1 own2:Nat->Nat} {gs1 gs2:Nat} (h:Two own1 gs1 own2 gs2) (h1:own1 gs1=0) (h2:own2 gs2=0):Two own2 gs2 own1 gs1:=fun b hb=>by
 refine ⟨?_,fun e=>?_⟩;by_cases c:own1 b=0;exact c;have:=h b (.inl c);rcases hb with hb | hb;exact absurd this.col hb;exact absurd hb this.ne;have:=h b (.inr e);rcases hb with hb | hb;exact hb this.col;exact this.ne hb
theorem nT (B:Nat) (own:Nat->Nat) (gs gl most rate N:Nat) (t:List UInt8) (p n:Int) (w:World) (h:StAt w B own gs gl most rate t) (hN:t.length=N):
 Calls Tryz.prog 163 #[.pointer (some ⟨gs,0,none⟩),.int .i64 p,.int .i64 n] w fun e w'=>e=.returned (.bool (nV N p n))/\w=w':=by
 have hll:=h.llen hN;have hN127:N<=127:=by have:=h.n127;omega
 have c0:=h.blk.cell 0;have HL:=lhd hll;clear hll h;unfold nV;by_cases h1:0<=p
 · by_cases h2:0<=n
   · by_cases h3:p<=(N:Int)
     · have e1:IntKind.i64.wrap ((N:Int) - p)=(N:Int) - p:=(by rw [IntKind.wrap_i64];omega);have d1:decide (0<=p)=true:=zBz h1;have d2:decide (0<=n)=true:=zBz h2;have d3:decide (p<=(N:Int))=true:=zBz h3;go_enter Tryz.func163,Tryz.ntmps163;go_wp2_with fail;refine HL.out.mono ?_;rintro e w1 ⟨rfl,rfl⟩;go_wp2_with fail;refine HL.out.mono ?_;rintro e w1 ⟨rfl,rfl⟩;go_wp2_with fail;go_ret;refine ⟨?_,rfl⟩
       first | rfl |(show Ending.returned (Value.bool (decide (n<=(N:Int) - p)))=_;congr 2;exact decide_eq_decide.2 oM)
     · have d1:decide (0<=p)=true:=zBz h1;have d2:decide (0<=n)=true:=zBz h2;have d3:decide (p<=(N:Int))=false:=zBy h3;go_enter Tryz.func163,Tryz.ntmps163;go_wp2_with fail;refine HL.out.mono ?_;rintro e w1 ⟨rfl,rfl⟩;go_wp2_with fail;go_ret;refine ⟨?_,rfl⟩;show Ending.returned (Value.bool false)=_;rw [zBy oM]
   · have d1:decide (0<=p)=true:=zBz h1;have d2:decide (0<=n)=false:=zBy h2;go_enter Tryz.func163,Tryz.ntmps163;go_wp2_with fail;go_ret;exact ⟨rfl,rfl⟩
 · have d1:decide (0<=p)=false:=zBy h1;go_enter Tryz.func163,Tryz.ntmps163;go_wp2_with fail;go_ret;exact ⟨rfl,rfl⟩
def tJ (kind n:Int) (m:Nat):Int:=if kind=1 then 0 else if kind=3 then (m:Int) else n
theorem qJ (B:Nat) (own:Nat->Nat) (gs gl most rate N:Nat) (t:List UInt8) (kind p n:Int) (A:Option Addr) (m c:Nat) (w:World) (h:StAt w B own gs gl most rate t) (hN:t.length=N) (hno:nV N p (tJ kind n m)=false):
 Calls Tryz.prog 96 #[.pointer (some ⟨gs,0,none⟩),.agg #[.int .i64 kind,.int .i64 p,.int .i64 n,.slice A m c]] w fun e w'=>e=.returned (.int .i64 2)/\Below w.heap.size w w':=by
 have hb:Below w.heap.size w (w.alloc (.cells #[.int .i64 kind,.int .i64 p,.int .i64 n,.slice A m c] 54)):=bR.alloc nL _;have hh:=fun q=>nT B own gs gl most rate N t p q _ (h.vb (Vis.of_below hb)) hN;have Hb:=lhd hb;have hbk:=Bk.new w 54 #[.int .i64 kind,.int .i64 p,.int .i64 n,.slice A m c];have c0:=hbk.cell 0;have c1:=hbk.cell 1;have c2:=hbk.cell 2;have c3:=hbk.cell 3;have HH:=lhd hh;clear h hb hbk hh;unfold tJ at hno;by_cases h1:kind=1
 · subst h1;rw [zBx rfl] at hno;have Hno:=lhd hno;clear hno;go_enter Tryz.func96,Tryz.ntmps96;go_wp2_with fail;refine (HH.out 0).mono ?_;rintro e w1 ⟨rfl,rfl⟩;rw [Hno.out];go_wp2_with fail;go_ret;exact ⟨rfl,Hb.out⟩
 · rw [zBw h1] at hno;by_cases h3:kind=3
   · subst h3;rw [zBx rfl] at hno;have Hno:=lhd hno;clear hno;go_enter Tryz.func96,Tryz.ntmps96;go_wp2_with fail;refine (HH.out (m:Int)).mono ?_;rintro e w1 ⟨rfl,rfl⟩;rw [Hno.out];go_wp2_with fail;go_ret;exact ⟨rfl,Hb.out⟩
   · rw [zBw h3] at hno;have Hno:=lhd hno;have b1:(kind==1)=false:=zCb.2 h1;have b3:(kind==3)=false:=zCb.2 h3;clear hno;go_enter Tryz.func96,Tryz.ntmps96;go_wp2_with fail;refine (HH.out n).mono ?_;rintro e w1 ⟨rfl,rfl⟩;rw [Hno.out];go_wp2_with fail;go_ret;exact ⟨rfl,Hb.out⟩
def exB:List UInt8:= [83,75,82,49,9,2,3,9,4,98,1,99,1,0,1,98,1,16,238,82,29,2,2,1,235,64,232,4,165,208,238,79]
theorem vD:IsSuf (aD [97,98,97]) [3,2,0,1]:=by
 refine ⟨by decide,?_⟩;have h:∀p q k,(∀m,m < k->aN (aD [97,98,97]) (p+m)=aN (aD [97,98,97]) (q+m))->aN (aD [97,98,97]) (p+k) < aN (aD [97,98,97]) (q+k)->sufLt (aD [97,98,97]) p q:=fun p q k h1 h2=>⟨k+1,k,by omega,h1,h2⟩;refine .cons ?_ (.cons ?_ (.cons ?_ (.cons ?_ .nil)));intro a ha;simp at ha;rcases ha with rfl | rfl | rfl;exact h 3 2 0 oM dC;exact h 3 0 0 oM dC;exact h 3 1 0 oM dC;intro a ha;simp at ha;rcases ha with rfl | rfl;exact h 2 0 1 dC dC;exact h 2 1 0 oM dC;intro a ha;simp at ha;subst ha;exact h 0 1 0 oM dC
 · intro a ha;cases ha
theorem tQ:cG (aE (aD [97,98,97]) [3,2,0,1]) [3,2,0,1] 9 2 3=exB:=by decide+kernel
theorem aIP:ofB (exB.take 31) ((27:Nat):Int)=(4006651140,0):=by decide+kernel
theorem aIu:gJ ((exB.take 31).take 27)=1044940673:=by decide+kernel
structure TI (w W:World) (gl:Nat) (gm:Nat) (A:Option Addr) (c gh:Nat):Prop where
 la:TpAt W w.heap.size gl [97,98,97] 2
 tp:TpAt W w.heap.size gm [97,98,97] 2
 rd:Rd W W.heap.size 1 A 32 (exB.map bv)
 hd:Bk W gh 40 #[.int .i64 9,.int .i64 2,.int .i64 3]
 low:Below w.heap.size w W
 sz:w.heap.size<=W.heap.size
theorem TI.grow {w W W':World} {gl gm:Nat} {A:Option Addr} {c gh:Nat} (h:TI w W gl gm A c gh) (k:Below W.heap.size W W'):TI w W' gl gm A c gh:=
 ⟨h.la.vis (Vis.of_below k),h.tp.vis (Vis.of_below k),(h.rd.below k).mono k.size,h.hd.below k h.hd.lt,h.low.trans (k.mono h.sz),zAk h.sz k.size⟩
theorem wG (w:World) (hT:TabW w):Calls Tryz.prog 19 #[] w fun e w'=>e=.returned (.bool true)/\Below w.heap.size w w':=by
 have hw:=hT.pos;have HT:=lhd hT;clear hT;have kc:=jZ;have kc1:=uD;go_enter Tryz.func19,Tryz.ntmps19;go_wp2_with fail;have hp:=aEA w #[.int .u8 97,.int .u8 98,.int .u8 97] (3,4) [97,98,97] 3 rfl rfl;refine (fI 2 _ 1 1 (w.heap.size+2) [(⟨some ⟨w.heap.size,0,none⟩,3,3, [97,98,97]⟩:Sl)] [97,98,97] 3 rfl rfl _ hp.1 hp.2 (by simp) oM oM oM oM).mono ?_;rintro e w1 ⟨gl,own,rfl,hgl,hlE,hb⟩;have hv:Below w.heap.size w w1:=(((Below.refl w.heap.size w).alloc nL _).alloc (by simp) _).trans (hb.mono (by simp;omega));have Hla:=lhd ((hlE.tp (by simp)).mono (B':=w.heap.size) (by simp;omega));have Hv:=lhd hv;clear hlE hv hb hp hgl kc kc1;go_wp2_with fail;have hla0:=Hla.out;obtain ⟨rs,gk,gp,pr,hrs,hlg,hrt,_,_⟩:=hla0;have hrs2:=hrs.unique vD;subst hrs2;have hsv:=iR w.heap.size gl gk gp 2 9 [97,98,97] [3,2,0,1] pr w1 hlg hrt vD dC oM oM dC oM;clear hlg hrt hrs;unfold dS at hsv;have ex_snap':=tQ;rw [show ([97,98,97]:List UInt8).length=3 from rfl,tQ,show exB.length=32 from rfl] at hsv;refine hsv.mono ?_;clear hsv ex_snap';rintro e w2 ⟨A2,c2,rfl,hm2,hu2⟩;obtain ⟨Hla2,Hv2,Hm2⟩:=hqq3 (Hla.out.vis hu2.1) (Hv.out.trans (VB.to_below hu2 Hv.out.size)) hm2;clear hm2 hu2 Hla Hv;go_wp2_with fail;have hld:=lI A2 c2 w2.heap.size 9 2 [97,98,97] [3,2,0,1] w2 vD dC oM oM dC oM;rw [show ([97,98,97]:List UInt8).length=3 from rfl,tQ,show exB.length=32 from rfl] at hld;have hcap:=Hm2.out.cap;have hmax:=Hm2.out.max;have hl3:=hld Hm2.out.rd nL hcap hmax;unfold mP iC at hl3;refine hl3.mono ?_;clear hld hl3;rintro e w3 ⟨gm,rfl,⟨ownm,ht3⟩,hu3⟩;obtain ⟨Ht3,Hla3,Hv3,Hm3⟩:=hqq4 (ht3.tp dC) (Hla2.out.vis hu3.1) (Hv2.out.trans (VB.to_below hu3 nL|>.mono Hv2.out.size)) (hu3.1.made Hm2.out dC dC);have hs3:=hu3.1.size;clear ht3 hu3 Hla2 Hm2;obtain ⟨gh,hgh⟩:∃g,w3.heap.size=g:=⟨_,rfl⟩;have hbg:=(Below.refl w3.heap.size w3).alloc nL (.cells #[.int .i64 9,.int .i64 2,.int .i64 3] 40);have hti:TI w (w3.alloc (.cells #[.int .i64 9,.int .i64 2,.int .i64 3] 40)) gl gm A2 c2 gh:=
  ⟨Hla3.out.vis (Vis.of_below hbg),(Ht3.out.mono Hv2.out.size).vis (Vis.of_below hbg),(Hm3.out.rd.below hbg).mono hbg.size,hgh ▸ Bk.new _ _ _,Hv3.out.trans (hbg.mono Hv3.out.size),zAk Hv3.out.size hbg.size⟩
 have HI:=lhd hti;clear Hla3 Ht3 Hv3 Hm3 hs3 hti hbg Hv2;go_wp2_with fail;generalize w3.alloc (.cells #[.int .i64 9,.int .i64 2,.int .i64 3] 40)=W3 at HI⊢;clear hgh;have hlL:(aE (aD [97,98,97]) [3,2,0,1]).length=3+1:=dC;have hla0:=HI.out.la;obtain ⟨rs,gk,gp,pr,hrs,hlg,_,_,_⟩:=hla0;have hrs2:=hrs.unique vD;subst hrs2;refine (sN w.heap.size gl 3 _ 2 W3 hlg.lvw hlL oM dC).mono ?_;clear hlg hrs hlL;rintro e w4 ⟨rfl,rfl⟩;go_wp2_with fail;refine (aCa W3).mono ?_;rintro e w4 ⟨rfl,hb4⟩;have HI4:=lhd (HI.out.grow hb4);clear hb4 HI;go_wp2_with fail;have hbg4:=(Below.refl w4.heap.size w4).alloc nL (.cells #[.int .i64 0,.int .i64 0,.int .i64 0] 40);have HI5:=lhd (HI4.out.grow hbg4);generalize w4.alloc (.cells #[.int .i64 0,.int .i64 0,.int .i64 0] 40)=W4 at HI5⊢;clear HI4 hbg4;have kc31:=kS (P:=Tryz.prog) 23 5 1 Tryz.underlying23 (fun w=>by kernel_rfl) A2 32 c2 31 oM;go_wp2_with fail;have hr31:=HI5.out.rd.cut_hi (k:=31) oM;rw [<-List.map_take,zBl] at hr31;refine (aB9 A2 31 27 c2 W4.heap.size 4006651140 1044940673 (exB.take 31) W4 hr31 nL rfl oM oM oM aIP aIu dC).mono ?_;rintro e w5 ⟨rfl,hb5⟩;have HI6:=lhd (HI5.out.grow hb5);clear hb5 HI5 hr31 kc31;go_wp2_with fail;have hbg5:=(Below.refl w5.heap.size w5).alloc nL (.cells #[.int .i64 0,.int .i64 0,.int .i64 0] 40);have HI7:=lhd (HI6.out.grow hbg5);generalize w5.alloc (.cells #[.int .i64 0,.int .i64 0,.int .i64 0] 40)=W5 at HI7⊢;clear HI6 hbg5;have hlk:=aAw A2 c2 W5.heap.size 9 2 32 [97,98,97] [3,2,0,1] W5 vD dC oM oM dC oM;rw [show ([97,98,97]:List UInt8).length=3 from rfl,tQ] at hlk;have hl2:=hlk rfl HI7.out.rd nL hcap hmax;unfold wV iC at hl2;clear hlk;go_wp2_with fail;refine hl2.mono ?_;clear hl2;rintro e w6 ⟨rfl,hu6⟩;have hb6:Below W5.heap.size W5 w6:=VB.to_below hu6 nL;have HI8:=lhd (HI7.out.grow hb6);clear hb6 hu6 HI7;have hbg6:=(Below.refl w6.heap.size w6).alloc nL (.cells #[.int .i64 9,.int .i64 2,.int .i64 3] 40);have hI9:=HI8.out.grow hbg6;have HI9:=lhd hI9;have hrs4:=hI9.rd.cut_hi (k:=4) oM;rw [<-List.map_take,zBl] at hrs4;have sS:(convert 23 9 (.slice A2 4 c2)).run Tryz.prog (w6.alloc (.cells #[.int .i64 9,.int .i64 2,.int .i64 3] 40))=.ok (.string ⟨#[83,75,82,49]⟩) (w6.alloc (.cells #[.int .i64 9,.int .i64 2,.int .i64 3] 40)):=(iK hrs4 c2).trans rfl;have d0:(w6.alloc (.cells #[.int .i64 9,.int .i64 2,.int .i64 3] 40)).cell? ⟨gh,0,none⟩=some (.int .i64 9):=hI9.hd.cell 0;have d1:(w6.alloc (.cells #[.int .i64 9,.int .i64 2,.int .i64 3] 40)).cell? ⟨gh,1,none⟩=some (.int .i64 2):=hI9.hd.cell 1;have d2:(w6.alloc (.cells #[.int .i64 9,.int .i64 2,.int .i64 3] 40)).cell? ⟨gh,2,none⟩=some (.int .i64 3):=hI9.hd.cell 2;have hg6:Bk (w6.alloc (.cells #[.int .i64 9,.int .i64 2,.int .i64 3] 40)) w6.heap.size 40 #[.int .i64 9,.int .i64 2,.int .i64 3]:=Bk.new _ _ _;have Hg6:=lhd hg6;clear hbg6 hI9 hrs4 HI8 hg6;go_wp2_with fail;obtain ⟨g6,hg6e⟩:∃g,w6.heap.size=g:=⟨_,rfl⟩;rw [hg6e] at Hg6⊢;clear sS d0 d1 d2 hg6e;generalize w6.alloc (.cells #[.int .i64 9,.int .i64 2,.int .i64 3] 40)=W6 at HI9 Hg6⊢;have htx:=aAv w.heap.size gm 2 [97,98,97] W6 HI9.out.tp (HT.out.below HI9.out.low hw) hw;unfold wJ at htx;refine htx.mono ?_;clear htx;rintro e w7 ⟨A7,c7,rfl,hm7,hu7⟩;have hb7:Below w.heap.size W6 w7:=VB.to_below hu7 HI9.out.sz;have s2:(convert 23 9 (.slice A7 3 c7)).run Tryz.prog w7=.ok (.string ⟨#[97,98,97]⟩) w7:=(iK hm7.rd c7).trans rfl;have hhd:=hu7.1.bk HI9.out.hd dC dC;have hhg:=hu7.1.bk Hg6.out dC dC;have d0:w7.cell? ⟨gh,0,none⟩=some (.int .i64 9):=hhd.cell 0;have d1:w7.cell? ⟨gh,1,none⟩=some (.int .i64 2):=hhd.cell 1;have d2:w7.cell? ⟨gh,2,none⟩=some (.int .i64 3):=hhd.cell 2;have j0:w7.cell? ⟨g6,0,none⟩=some (.int .i64 9):=hhg.cell 0;have j1:w7.cell? ⟨g6,1,none⟩=some (.int .i64 2):=hhg.cell 1;have j2:w7.cell? ⟨g6,2,none⟩=some (.int .i64 3):=hhg.cell 2;have Hfin:=lhd (HI9.out.low.trans hb7);clear hb7 hhd hhg hm7 hu7 HI9 Hg6;go_wp2_with fail;go_ret;exact ⟨rfl,Hfin.out⟩
end Go.Proofs.YtnhmjomhloainaaGreatDoor
