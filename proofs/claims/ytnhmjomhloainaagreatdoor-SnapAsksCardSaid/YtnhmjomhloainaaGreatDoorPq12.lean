/- Parts of the walk, joined from several texts. Conditions: what each lemma says. -/
import Derived.Test.YtnhmjomhloainaaGreatDoorPq11
set_option linter.all false
set_option maxRecDepth 100000
set_option maxHeartbeats 2000000
namespace Go.Proofs.YtnhmjomhloainaaGreatDoor
open Go.RowKit
@[irreducible] def rowC (T:Nat->Value) (m:Nat):Array Value:=Array.ofFn (n:=m) fun i=>T i.val
theorem mW (T:Nat->Value) (m:Nat):(rowC T m).size=m:=by unfold rowC;simp
theorem lX (T:Nat->Value) (m i:Nat) (h:i < m):(rowC T m)[i]?=some (T i):=by
 unfold rowC;rw [Array.getElem?_ofFn,dif_pos h]
theorem aFQ (T:Nat->Value) (m i:Nat) (h:i < m) (v:Value):(rowC T m).setIfInBounds i v=rowC (fun j=>if j=i then v else T j) m:=by
 apply Array.ext_getElem?;intro j;rcases zBe j m with hj | hj
 · rw [lX _ _ _ hj];by_cases e:i=j
   · subst e;rw [Array.getElem?_setIfInBounds_self_of_lt (by rw [mW];exact h),zBx rfl]
   · rw [zCe e,lX _ _ _ hj,zBw (fun x=>e x.symm)]
 · rw [Array.getElem?_eq_none (by simp [mW];exact hj),Array.getElem?_eq_none (by rw [mW];exact hj)]
theorem aCG (v:Value) (m:Nat):rowC (fun _=>v) m=Array.replicate m v:=by
 apply Array.ext_getElem?;intro j;rcases zBe j m with hj | hj
 · rw [lX _ _ _ hj];simp [hj]
 · rw [Array.getElem?_eq_none (by rw [mW];exact hj),Array.getElem?_eq_none (by simpa using hj)]
structure Bits (w:World) (B gB m:Nat) (T:Nat->Value) (R:Nat->List Bool):Prop where
 blk:Bk w gB 205 (rowC T m)
 own:∀p,p < m->w.ownsRow B 4 1 (T p) (R p).length ((R p).map Value.bool)
 apart:∀p q,p < m->q < m->p≠q->∀b,(T p).ownBlock=some b->(T q).ownBlock≠some b
theorem Bits.same {w w':World} {B gB m:Nat} {T:Nat->Value} {R:Nat->List Bool} (h:Bits w B gB m T R) (k1:∀b cs,Bk w b 205 cs->Bk w' b 205 cs) (k2:∀b cs,Bk w b 4 cs->Bk w' b 4 cs):Bits w' B gB m T R:=
 ⟨k1 _ _ h.blk,fun p hp=>aB (h.own p hp) fun b cs _ hb=>k2 b cs hb,h.apart⟩
theorem Bits.below {w w':World} {B gB m:Nat} {T:Nat->Value} {R:Nat->List Bool} (h:Bits w B gB m T R) (k:Below w.heap.size w w'):Bits w' B gB m T R:=h.same (fun b cs hb=>hb.below k hb.lt) (fun b cs hb=>hb.below k hb.lt)
theorem Bits.start (w:World) (B gB m:Nat) (h:Bk w gB 205 (rowC (fun _=>.slice none 0 0) m)):Bits w B gB m (fun _=>.slice none 0 0) (fun _=> []):=
 ⟨h,fun p hp=>World.ownsRow_nil _ _ _ _,fun p q _ _ _ b hb=>by simp [Value.ownBlock] at hb⟩
theorem Bits.push {w w1:World} {B gB m p:Nat} {T:Nat->Value} {R:Nat->List Bool} {v:Value} {b:Bool} (h:Bits w B gB m T R) (hp:p < m) (k:Keep (fun b=>(T p).ownBlock=some b) w w1)
 (ho:w1.ownsRow B 4 1 v ((R p).length+1) ((R p).map Value.bool++ [.bool b])) (ha:v.ownBlock=(T p).ownBlock∨∃g,v.ownBlock=some g/\w.heap.size<=g):
 Bits (w1.setCell ⟨gB,p,none⟩ v) B gB m (fun j=>if j=p then v else T j) (fun j=>if j=p then R p++ [b] else R j):=by
 have hne:(T p).ownBlock≠some gB:=by intro e;exact aZ (h.own p hp) h.blk dC e.symm
 have hb1:=k.bk h.blk hne;have hset:∀g cs,Bk w1 g 4 cs->Bk (w1.setCell ⟨gB,p,none⟩ v) g 4 cs:=fun g cs hg=>hg.far (Bk.ne hg hb1 dC) _;refine ⟨?_,fun q hq=>?_,fun q r hq hr hqr b' hb'=>?_⟩;rw [<-aFQ T m p hp v];exact hb1.set p v;by_cases e:q=p;subst e;rw [zBx rfl,zBx rfl,zAi,zAz];exact aB ho fun g cs _ hg=>hset g cs hg;rw [zBw e,zBw e];refine aB (h.own q hq) fun g cs hg hgb=>hset g cs (k.bk hgb ?_);exact fun x=>h.apart q p hq hp e g hg x;have lt:∀q,q < m->∀x,(T q).ownBlock=some x->x < w.heap.size:=fun q hq x hx=>((h.own q hq).lt x hx).2;have hv:∀q,q < m->q≠p->∀x,v.ownBlock=some x->(T q).ownBlock≠some x:=(by intro q hq hqp x hx hy;rcases ha with ha |⟨g,hg,hge⟩;rw [ha] at hx;exact h.apart p q hp hq (fun e=>hqp e.symm) x hx hy;rw [hg] at hx;cases hx;have:=lt q hq _ hy;omega);by_cases e1:q=p;subst e1;rw [zBx rfl] at hb';rw [zBw (fun e=>hqr e.symm)];exact hv r hr (fun e=>hqr e.symm) b' hb';rw [zBw e1] at hb';by_cases e2:r=p;subst e2;rw [zBx rfl];intro hx;exact hv q hq e1 b' hx hb';rw [zBw e2];exact h.apart q r hq hr hqr b' hb'
theorem aE0 (L:List Nat) (s lv p:Nat):aK (L++ [s]) lv p=if p=bB s lv then aK L lv p++ [fS s lv] else aK L lv p:=by
 unfold aK;rw [List.filter_append,zAz];by_cases e:p=bB s lv
 · rw [zBx e];simp [e]
 · rw [zBw e];have:(bB s lv==p)=false:=(by simp;omega);simp [this]
theorem Bits.congr {w:World} {B gB m:Nat} {T:Nat->Value} {R R':Nat->List Bool} (h:Bits w B gB m T R) (e:∀p,p < m->R p=R' p):Bits w B gB m T R':=
 ⟨h.blk,fun p hp=>by rw [<-e p hp];exact h.own p hp,h.apart⟩
theorem eL {w:World} {base:Nat} {e:TypeId} {sz n b:Nat} {v:Value} {xs:List Value} (h:w.ownsRow base e sz v n xs) (hb:v.ownBlock=some b):∃cs,Bk w b e cs:=by
 rcases h.2 with ⟨rfl,_⟩|⟨g,cap,cur,rfl,_,hg,_⟩
 · simp [Value.ownBlock] at hb
 have e1:g=b:=(by simpa [Value.ownBlock] using hb);subst e1;exact ⟨cur,hg⟩
theorem TreeAt.keepT {w w':World} {F:Nat->Prop} {gt:Nat} {bs:List Bool} (h:TreeAt w gt bs) (k:Keep F w w') (hf:∀b,F b->∃t cs,Bk w b t cs/\(t=170∨t=173)):TreeAt w' gt bs:=by
 refine h.same fun b t cs hin hb=>k.bk hb fun hF=>?_;obtain ⟨t',cs',hb',ht⟩:=hf b hF;have e:=(aM hb hb').1;subst e;rcases ht with rfl | rfl;exact absurd hin dC;exact absurd hin dC
theorem ShelfRow.keepW {w w':World} {gv B:Nat} {cs:Array Value} {v:Value} {L:List Nat} {lv m:Nat} (h:ShelfRow w B v L lv m) (k:Keep (fun b=>b=gv) w w') (hw:Bk w gv 170 cs):ShelfRow w' B v L lv m:=by
 obtain ⟨G,h1,h2⟩:=h;refine ⟨G,aB h1 fun b cs _ hb=>k.bk hb fun e=>?_,fun p hp=>⟨(h2 p hp).1,(h2 p hp).2.keepT k fun b e=>by
  have e':b=gv:=e;subst e';exact ⟨_,cs,hw,.inl rfl⟩⟩⟩
 have e':b=gv:=e;subst e';exact absurd (aM hb hw).1 dC
theorem ShelfRow.mono {w:World} {B B':Nat} {v:Value} {L:List Nat} {lv m:Nat} (h:ShelfRow w B v L lv m) (hB:B'<=B):ShelfRow w B' v L lv m:=by
 obtain ⟨G,h1,h2⟩:=h;exact ⟨G,bX h1 hB,fun p hp=>⟨zAk hB (h2 p hp).1,(h2 p hp).2⟩⟩
def bT (l:List Nat) (i:Nat):Nat:=l.getD ((i+l.length - 1)% l.length) 0
def aE (l rs:List Nat):List Nat:=rs.map (bT l)
theorem bJ (l rs:List Nat):(aE l rs).length=rs.length:=by simp [aE]
theorem aF0 {l:List Nat} (h:∀s∈l,s < 257) (i:Nat):bT l i < 257:=by
 unfold bT;rw [zAb];cases e:l[(i+l.length - 1)% l.length]? with
 | none=>simp
 | some x=>simpa using h x (zAd e)
theorem dG {l rs:List Nat} (h:∀s∈l,s < 257):∀s∈aE l rs,s < 257:=by
 intro s hs;obtain ⟨i,_,rfl⟩:=zAy.1 hs;exact aF0 h i
theorem aEt (n:Nat) (hn:n<=1000000) (w:World):(Instr.makeSlice 22 (.int .i64 0) (.int .i64 (n:Int))).run Tryz.prog w=.ok (.slice (some ⟨w.heap.size,0,none⟩) 0 n) (w.alloc (.cells (madeCells #[.int .i64 0] n) 3)):=by
 obtain ⟨i0,hi0,hz0,hz1,hz2⟩:=info_parts fK;have:=run_make (P:=Tryz.prog) w 22 3 i0 (.int .i64 0) Tryz.underlying22 hi0 hz0 .i64 .i64 0 n oM oM (by rw [hz2];omega) oM;rw [this,hz1];simp only [Value.cells,zBr,zBl];rfl
theorem aBm {w w':World} {sz n:Nat} {A:Option Addr} {xs:List Value} {row:Option Nat} (h:Rd w w.heap.size sz A n xs) (hg:w.grownBy w' row) (hA:∀a,A=some a->row≠some a.block):Rd w' w'.heap.size sz A n xs:=by
 refine ⟨h.1,fun hn=>?_⟩;obtain ⟨b,off,rfl,hb,hc⟩:=h.2 hn;refine ⟨b,off,rfl,zAl hb hg.size,fun j u hu=>?_⟩;rw [World.cell?_of_block (w:=w) (hg.block b hb (fun e=>hA _ rfl e.symm))];exact hc j u hu
def Apt (v:Value) (A:Option Addr):Prop:=∀a,A=some a->v.ownBlock≠some a.block
theorem Apt.next {v v':Value} {A:Option Addr} {g:Nat} (h:Apt v A) (ho:v'.ownBlock=v.ownBlock∨v'.ownBlock=some g) (hA:∀a,A=some a->a.block < g):Apt v' A:=by
 intro a ha hb;rcases ho with e | e;exact h a ha (e.symm.trans hb);rw [e] at hb;injection hb with hb;have:=hA a ha;omega
theorem mN (A:Option Addr) (m c B:Nat) (t:List UInt8) (w:World) (hr:Rd w B 1 A m (t.map bv)) (hB:B<=w.heap.size) (hm:m<=200):
 Calls Tryz.prog 112 #[.slice A m c] w fun e w'=>∃rs A' c',IsSuf (aD t) rs/\e=.returned (.slice A' (m+1) c')/\Made w' w.heap.size 3 1 A' (m+1) c' ((aE (aD t) rs).map sv)/\Below w.heap.size w w':=by
 obtain ⟨i0,hi0,hz0,hz1,hz2⟩:=info_parts fK;have htl:t.length=m:=by simpa using hr.1
 obtain ⟨Hr,Htl⟩:=hqq2 hr htl;clear hr htl;go_enter Tryz.func112,Tryz.ntmps112;go_wp2_with fail;obtain ⟨n,hn⟩:=eqx (m+1);have hsa:=wK w.heap.size 0 A m c w.heap.size t (w.alloc (.cells #[.slice A m c] 23)) (Bk.new _ _ _) ((Hr.out.mono hB).alloc nL _) (by simp) oM;have hrs:=fun W (hb:Below w.heap.size w W)=>mM A m c w.heap.size t W ((Hr.out.mono hB).below hb) hb.size hm;simp only [hn] at hsa hrs;have hn2:n<=201:=oM;have hn1:1<=n:=oM;have hll:(aD t).length=n:=by rw [aJ,Htl.out,hn]
 obtain ⟨HN,Hll,HRS⟩:=hqq3 hn hll hrs;clear hn hll hrs;refine hsa.mono ?_;clear hsa;rintro e w1 ⟨A1,c1,rfl,hm1,hb1⟩;have hb1':=((Below.refl w.heap.size w).alloc nL _).trans (hb1.mono (by simp));have kz:=aEt n oM;obtain ⟨Hm1,Hb1⟩:=hqq2 hm1 hb1';clear hm1 hb1 hb1';go_wp2_with fail;clear kz;have hb2:=Hb1.out.alloc Hb1.out.size (.cells (madeCells #[.int .i64 0] n) 3);have hm2:=Hm1.out.below (bR.alloc nL (.cells (madeCells #[.int .i64 0] n) 3));have hown:(w1.alloc (.cells (madeCells #[.int .i64 0] n) 3)).ownsRow w.heap.size 3 1 (.slice (some ⟨w1.heap.size,0,none⟩) 0 n) 0 []:=World.ownsRow_made _ _ _ Hb1.out.size (by unfold maxLen;omega) (by simp [madeCells]);obtain ⟨g1,hg1⟩:∃g,w1.heap.size=g:=⟨_,rfl⟩;have hgs:g1 < (w1.alloc (.cells (madeCells #[.int .i64 0] n) 3)).heap.size:=by rw [<-hg1];simp
 have hap1:Apt (.slice (some ⟨g1,0,none⟩) 0 n) A1:=by
  intro a ha hb;obtain ⟨A9,c9,h9,_,h8⟩:=aR Hm1.out.own;injection h9 with h9;have:=(h8 a (h9.symm.trans ha)).2;have hb':g1=a.block:=by simpa [Value.ownBlock] using hb
  omega
 have Hap1:=lhd hap1;clear hap1;rw [hg1] at hown⊢;generalize w1.alloc (.cells (madeCells #[.int .i64 0] n) 3)=W2 at hb2 hm2 hown hgs⊢;obtain ⟨Hown,Hm2⟩:=hqq2 hown hm2;clear hown hm2 Hm1 Hb1 hg1;refine (HRS.out W2 hb2).mono ?_;rintro e w3 ⟨rs,A3,c3,hsuf,rfl,hm3,hb3⟩;have hb3':=hb2.trans (hb3.mono hb2.size);have hown3:=aV Hown.out hb3;have hm23:=Hm2.out.below hb3;have hap3:Apt (.slice (some ⟨g1,0,none⟩) 0 n) A3:=by
  intro a ha hb;obtain ⟨A9,c9,h9,_,h8⟩:=aR hm3.own;injection h9 with h9;have:=(h8 a (h9.symm.trans ha)).1;have hb':g1=a.block:=by simpa [Value.ownBlock] using hb
  omega
 have Hap3:=lhd hap3;clear hap3;obtain ⟨Hsuf,Hm3,Hm23,Hown3,Hb3⟩:=hqq5 hsuf hm3.rd hm23.rd hown3 hb3';clear hsuf hm3 hm23 hown3 hb3' hb3 hb2 Hown Hm2 HRS;go_wp2_with fail;go_loopw [4,6,16] (fun v _ i wr=>∃k:Nat,k<=n/\i=.int .i64 k/\wr.ownsRow w.heap.size 3 1 v k ((aE (aD t) (rs.take k)).map sv)/\Below w.heap.size w wr/\Apt v A1/\Apt v A3/\Rd wr wr.heap.size 1 A1 n ((aD t).map sv)/\Rd wr wr.heap.size 1 A3 n (rs.map sv)) (fun _ _ i _=>n -(intOf i).toNat)
 case atStart=>exact ⟨0,by omega,rfl,Hown3.out,Hb3.out,Hap1.out,Hap3.out,Hm23.out,Hm3.out⟩
 case round=>
  obtain ⟨k,hk,rfl,hown,hbw,hp1,hp3,hrl,hrr⟩:=hrel;by_cases hlt:k < n
  · obtain ⟨b,off,u,rfl,hbl,hu,hc⟩:=hrr.get hlt;rw [zAf] at hu;obtain ⟨p,hp,rfl⟩:=Option.map_eq_some_iff.1 hu;have hpn:p < n:=(by have:=Hsuf.out.lt (zAd hp);rw [Hll.out] at this;exact this);obtain ⟨q,hq⟩:=eqx ((p+n - 1)% n);have hqn:q < n:=(by rw [<-hq];exact Nat.mod_lt _ oM);obtain ⟨b',off',u',rfl,hbl',hu',hc'⟩:=hrl.get hqn;rw [zAf] at hu';obtain ⟨x,hx,rfl⟩:=Option.map_eq_some_iff.1 hu';have hpx:bT (aD t) p=x:=(by unfold bT;rw [Hll.out,hq,zAb,hx];rfl);have htk:aE (aD t) (rs.take (k+1))=aE (aD t) (rs.take k)++ [x]:=(by rw [zAv,hp,aE,zAz,<-hpx];rfl);unfold sv at hc hc';have hqi:((p:Int)+(n:Int) - 1)%(n:Int)=(q:Int):=(by rw [<-hq,Int.natCast_emod];congr 1;omega);have hqt:((p:Int)+(n:Int) - 1).tmod (n:Int)=(q:Int):=(by rw [Int.tmod_eq_emod_of_nonneg oM];exact hqi);obtain ⟨Htk,Hown2,Hp1,Hp3,Hbw,Hrl,Hrr,Hq⟩:=hqq8 htk hown hp1 hp3 hbw hrl hrr hq;clear hu hu' hx hpx htk hown hbw hp1 hp3 hrl hrr hq hp;go_wp2_with (at_builtin;refine aY _ rfl (.tmp 20) (.tmp 32) _ rfl w.heap.size 3 i0 (.int .i64 0) 1 8 Tryz.underlying22 hi0 hz0 hz1 hz2 rfl dC _ k _ rfl Hown2.out rfl rfl (by simp [Value.oneCell']) (by unfold maxLen;omega) oM Hbw.out.size ?_;intro v2 w2 hown2 hg2 hs2 hat2);have hbw2:=aW Hbw.out Hown2.out hg2 Hbw.out.size;have hl1:∀a,some (⟨b',off',none⟩:Addr)=some a->a.block < _:=fun a ha=>by injection ha with ha;subst ha;exact hbl'
    have hl3:∀a,some (⟨b,off,none⟩:Addr)=some a->a.block < _:=fun a ha=>by injection ha with ha;subst ha;exact hbl
    go_roundw
    case rel=>refine ⟨k+1,by omega,by go_num,?_,hbw2,Hp1.out.next hat2 (fun a ha=>Nat.lt_succ_of_lt (hl1 a ha)),Hp3.out.next hat2 (fun a ha=>Nat.lt_succ_of_lt (hl3 a ha)),aBm Hrl.out hg2 Hp1.out,aBm Hrr.out hg2 Hp3.out⟩;rw [Htk.out,zAz];exact hown2
    case measure=>simp [intOf];omega
  · obtain rfl:n=k:=oM;rw [zAg (by rw [Hsuf.out.len,Hll.out];omega)] at hown;obtain ⟨A',c',rfl,hm'⟩:=aS hown;obtain ⟨Hm',Hbw⟩:=hqq2 hm' hbw;clear hown hm' hbw hp1 hp3 hrl hrr;go_wp2_with fail;go_ret;have hcast:∀L,Made wr w.heap.size 3 1 A' n c' L->Made wr w.heap.size 3 1 A' (m+1) c' L:=fun L h=>by rw [HN.out];exact h
    exact ⟨rs,A',c',Hsuf.out,by rw [HN.out];rfl,hcast _ Hm'.out,Hbw.out⟩
theorem aDl:(Tryz.prog.info? 205).map (fun i=>(i.zero,i.size,i.bytes))=some (some (.slice none 0 0),1,24):=by kernel_rfl
theorem aCA:(Tryz.prog.info? 173).map (fun i=>(i.zero,i.size,i.bytes))=some (some (.agg #[.pointer none,.int .i64 0,.int .i64 0]),3,24):=by kernel_rfl
theorem aFN (n:Nat) (hn:n<=1000000) (w:World):(Instr.makeSlice 241 (.int .i64 (n:Int)) (.int .i64 (n:Int))).run Tryz.prog w=.ok (.slice (some ⟨w.heap.size,0,none⟩) n n) (w.alloc (.cells (rowC (fun _=>.slice none 0 0) n) 205)):=by
 obtain ⟨i0,hi0,hz0,hz1,hz2⟩:=info_parts aDl;have:=run_make (P:=Tryz.prog) w 241 205 i0 (.slice none 0 0) Tryz.underlying241 hi0 hz0 .i64 .i64 n n oM (Int.le_refl _) (by rw [hz2];omega) oM;rw [this,hz1,aCG];have e:madeCells #[.slice none 0 0] n=Array.replicate n (.slice none 0 0):=by apply Array.ext';rw [toList_madeCells_one];simp
 simp only [Value.cells,zBr,zBl];rw [e]
end Go.Proofs.YtnhmjomhloainaaGreatDoor
