/- Parts of the walk, joined from several texts. Conditions: what each lemma says. -/
import Derived.Test.YtnhmjomhloainaaGreatDoorPq28
import Derived.BigQuiet
set_option linter.all false
set_option maxRecDepth 100000
set_option maxHeartbeats 2000000
namespace Go.Proofs.YtnhmjomhloainaaGreatDoor
open Go.RowKit
theorem sN (Bw gl N:Nat) (L:List Nat) (most:Int) (w:World) (hlv:LvW w Bw gl L) (hL:L.length=N+1) (hN:N<=1000000) (hm:most < (N:Int)):
 Calls Tryz.prog 18 #[.pointer (some ⟨gl,0,none⟩),.int .i64 most] w fun e w'=>e=.returned (.tuple #[.slice none 0 0,.int .i64 1])/\w=w':=by
 have n1:decide (most < (N:Int))=true:=zBz hm;go_enter Tryz.func18,Tryz.ntmps18;go_wp2_with fail;refine (bQ Bw gl L N w hlv hL hN).mono ?_;rintro e w1 ⟨rfl,rfl⟩;go_wp2_with fail;go_ret2;exact ⟨rfl,rfl⟩
theorem aAx (Bw gl N:Nat) (L:List Nat) (most:Int) (w:World) (hlv:LvW w Bw gl L) (hL:L.length=N+1) (hN:N<=1000000) (hm:most > 2147483648):
 Calls Tryz.prog 18 #[.pointer (some ⟨gl,0,none⟩),.int .i64 most] w fun e w'=>e=.returned (.tuple #[.slice none 0 0,.int .i64 1])/\w=w':=by
 have n0:¬(most < (N:Int)):=oM;have n1:decide (most < (N:Int))=false:=zBy n0;have n2:decide (most > 2147483648)=true:=zBz hm;go_enter Tryz.func18,Tryz.ntmps18;go_wp2_with fail;refine (bQ Bw gl L N w hlv hL hN).mono ?_;rintro e w1 ⟨rfl,rfl⟩;go_wp2_with fail;go_ret2;exact ⟨rfl,rfl⟩
theorem tU (l:List UInt8):(⟨l.toArray⟩:ByteArray).size=l.length:=by simp [ByteArray.size]
theorem aCz {t:List UInt8} {a:Nat} {c:UInt8} (h:t[a]?=some c):∀W,(Instr.index 9 (.string ⟨t.toArray⟩) (.int .i64 (a:Int))).run Tryz.prog W=.ok (.int .u8 (c.toNat:Int)) W:=fun W=>by
 obtain ⟨h1,h2⟩:=zAc.1 h;rw [aA7 (P:=Tryz.prog) 9 Tryz.underlying9 ⟨t.toArray⟩ a (by rw [tU];exact h1) W];congr 4
theorem aA1 {t:List UInt8} {a b:Nat} {c d:UInt8} (ha:t[a]?=some c) (hb:t[b]?=some d):sufLt (aD t) a b↔c.toNat < d.toNat∨(c.toNat=d.toNat/\sufLt (aD t) (a+1) (b+1)):=by
 rw [gM,nS t ha,nS t hb];constructor;rintro (h |⟨h1,h2⟩);exact .inl oM;exact .inr ⟨by omega,h2⟩;rintro (h |⟨h1,h2⟩);exact .inl oM;exact .inr ⟨by omega,h2⟩
theorem aCx {t:List UInt8} {b:Nat} (hb:b < t.length):sufLt (aD t) t.length b:=by
 rw [gM,aGV,nS t (zAa hb)];exact .inl oM
theorem aCw {t:List UInt8} {a:Nat} (ha:a < t.length):¬sufLt (aD t) a t.length:=by
 rw [gM,aGV,nS t (zAa ha)];rintro (h |⟨h,_⟩);omega;omega
def aG2 (t:List UInt8) (a b:Nat) (w:World) (e:Ending) (w':World):Prop:=∃r:Bool,e=.returned (.bool r)/\(r=true↔sufLt (aD t) a b)/\∃q,w'=w.drewN q
theorem aGr (t:List UInt8) (a b n:Nat) (w:World) (hn:t.length=n) (hn4:n<=1000) (ha:a<=n) (hb:b<=n) (hab:a≠b):
 Calls Tryz.prog 148 #[.string ⟨t.toArray⟩,.int .i64 (a:Int),.int .i64 (b:Int)] w (aG2 t a b w):=by
 have z1:(⟨t.toArray⟩:ByteArray).size=n:=(tU t).trans hn;have Hn:=lhd hn;clear hn;go_enter Tryz.func148,Tryz.ntmps148;go_wp2_with fail;go_loopw [1,2] (fun x y wr=>∃a' b' q:Nat,a'<=n/\b'<=n/\a'≠b'/\x=.int .i64 (a':Int)/\y=.int .i64 (b':Int)/\(sufLt (aD t) a b↔sufLt (aD t) a' b')/\wr=w.drewN q) (fun x _ _=>n -(intOf x).toNat)
 case atStart=>exact ⟨a,b,0,ha,hb,hab,rfl,rfl,Iff.rfl,rfl⟩
 case round=>
  obtain ⟨a',b',q,ha',hb',hne,rfl,rfl,hiff,rfl⟩:=hrel;have Hiff:=lhd hiff;clear hiff;by_cases hlt:a' < n/\b' < n
  · obtain ⟨h1,h2⟩:=hlt;have ga:t[a']?=some (t[a']'(by rw [Hn.out];exact h1)):=zAa _;have gb:t[b']?=some (t[b']'(by rw [Hn.out];exact h2)):=zAa _;generalize t[a']'(by rw [Hn.out];exact h1)=c at ga;generalize t[b']'(by rw [Hn.out];exact h2)=d at gb;have hs:=aA1 ga gb;have ia:=aCz ga;have ib:=aCz gb;have Hs:=lhd hs;have h1I:(a':Int) < (n:Int):=oM;have h2I:(b':Int) < (n:Int):=oM;clear hs ga gb;by_cases hcd:c.toNat=d.toNat
    · have hcI:(c.toNat:Int)=(d.toNat:Int):=oM;rw [hcI] at ia;have hab':sufLt (aD t) a b↔sufLt (aD t) (a'+1) (b'+1):=(by rw [Hiff.out,Hs.out];constructor;rintro (h | h);omega;exact h.2;exact fun h=>.inr ⟨hcd,h⟩);have Hab':=lhd hab';clear hcI hab' hcd;go_wp2_with fail;go_quiet (fail);go_wp2_with fail;go_roundw
      case rel=>exact ⟨a'+1,b'+1,_,by omega,by omega,by omega,by go_num,by go_num,Hab'.out,rfl⟩
      case measure=>simp [intOf];omega
    · have hcI:¬(c.toNat:Int)=(d.toNat:Int):=oM;have hr:decide (c.toNat < d.toNat)=true↔sufLt (aD t) a b:=(by rw [Hiff.out,Hs.out,zCa];constructor;exact fun h=>.inl h;rintro (h | h);exact h;exact absurd h.1 hcd);have Hr:=lhd hr;clear hr hcd;go_wp2_with fail;go_quiet (fail);go_wp2_with fail;go_quiet (fail);go_wp2_with fail;go_ret;exact ⟨decide (c.toNat < d.toNat),eP (by simp),Hr.out,_,by rw [World.drewN_drewN,World.drewN_drewN]⟩
  · have hr:decide ((b':Int) < (a':Int))=true↔sufLt (aD t) a b:=(by rw [Hiff.out,zCa];by_cases h1:a' < n;obtain rfl:b'=n:=(by have:¬b' < n:=fun h=>hlt ⟨h1,h⟩;omega);constructor;intro h;omega;intro h;have h3:=aCw (t:=t) (a:=a') (by rw [Hn.out];exact h1);rw [Hn.out] at h3;exact absurd h h3;obtain rfl:a'=n:=oM;have h3:=aCx (t:=t) (b:=b') (by rw [Hn.out];omega);rw [Hn.out] at h3;exact ⟨fun _=>h3,fun _=>by omega⟩);have Hr:=lhd hr;clear hr;by_cases h1:a' < n
    · have h1I:(a':Int) < (n:Int):=oM;have h2I:¬(b':Int) < (n:Int):=(by have:¬b' < n:=fun h=>hlt ⟨h1,h⟩;omega);clear hlt;go_wp2_with fail;go_ret;exact ⟨decide ((b':Int) < (a':Int)),eP (by simp),Hr.out,q,rfl⟩
    · have h1I:¬(a':Int) < (n:Int):=oM;clear hlt;go_wp2_with fail;go_ret;exact ⟨decide ((b':Int) < (a':Int)),eP (by simp),Hr.out,q,rfl⟩
theorem aCQ (q s:List UInt8):q.isPrefixOf s=true↔∀(i:Nat) (c:UInt8),q[i]?=some c->s[i]?=some c:=by
 rw [List.isPrefixOf_iff_prefix];constructor;rintro ⟨r,rfl⟩ i c h;rw [zAn (by obtain ⟨h1,_⟩:=zAc.1 h;exact h1)];exact h
 · intro h
   induction q generalizing s with
   | nil=>exact List.nil_prefix
   | cons a q ih=>
     cases s with
     | nil=>exact absurd (h 0 a rfl) (by simp)
     | cons b s=>
       have h0:=h 0 a rfl;simp at h0;subst h0;obtain ⟨r,hr⟩:=ih s fun i c hc=>by simpa using h (i+1) c (by simpa using hc)
       exact ⟨r,by rw [List.cons_append,hr]⟩
theorem aBo (t q:List UInt8) (p:Nat):rD (aD t) (dE q) p=q.isPrefixOf (t.drop p):=by
 rw [Bool.eq_iff_iff,aCS,aCQ];constructor;intro h i c hc;rw [zBt];exact h i c hc;intro h i c hc;have:=h i c hc;rw [zBt] at this;exact this
theorem aC7 (t q:List UInt8):∀k,t.length+1 - q.length<=k->k<=t.length+1->rI t q k=kG t q:=by
 intro k hk
 induction k with
 | zero=>
   intro _;have:t.length+1 - q.length=0:=oM;rw [kG,this]
 | succ k ih=>
   intro h1;rcases Nat.eq_or_lt_of_le hk with e | e
   · rw [kG,e]
   · rw [aEP,ih oM oM];cases hp:q.isPrefixOf (t.drop k) with
     | false=>rfl
     | true=>
       exfalso;have:=(List.isPrefixOf_iff_prefix.1 hp).length_le;rw [zAw] at this;omega
theorem zX (t q:List UInt8):gU t q=kG t q:=by
 rw [<-aC7 t q (t.length+1) oM nL];unfold gU rI;congr 1;funext i;exact aBo t q i
end Go.Proofs.YtnhmjomhloainaaGreatDoor
namespace Go.Proofs.YtnhmjomhloainaaGreatDoor
open Go.RowKit Go.Shelf
theorem VisF.mono {F G:Nat->Prop} {w w':World} (h:VisF F w w') (hf:∀b,b < w.heap.size->F b->G b):VisF G w w':=⟨h.os,h.tape,h.output,h.size,fun b hb hn=>h.block b hb fun f=>hn (hf b hb f)⟩
theorem VisF.trans' {F G:Nat->Prop} {w w1 w':World} (h:VisF F w w1) (k:VisF G w1 w') (hg:∀b,b < w.heap.size->G b->F b):VisF F w w':=by
 have h2:=VisF.trans (F:=fun b=>F b∨w.heap.size<=b) (h.mono fun b _ f=>.inl f) (k.mono fun b _ g=>by
  by_cases c:b < w.heap.size;exact .inl (hg b c g)
  · exact .inr oM)
 exact h2.mono fun b hb f=>f.elim id fun e=>by omega
structure LF (B:Nat) (w w':World) (own own':Nat->Nat):Prop where
 old:∀b,b < w.heap.size->own' b=own b
 vis:VisF (fun b=>own b≠0) w w'
 keep:Keep (fun b=>B<=b) w w'
theorem LF.refl (B:Nat) (w:World) (own:Nat->Nat):LF B w w own own:=⟨fun _ _=>rfl,VisF.of_vis (Vis.refl w),Keep.refl _ _⟩
theorem LF.trans {B:Nat} {w w1 w':World} {own own1 own':Nat->Nat} (h:LF B w w1 own own1) (k:LF B w1 w' own1 own'):LF B w w' own own':=by
 have hs:=h.keep.size;refine ⟨fun b hb=>(k.old b oM).trans (h.old b hb),h.vis.trans' k.vis fun b hb f=>?_,h.keep.trans k.keep⟩;rw [<-h.old b hb];exact f
theorem LF.of_vb {B:Nat} {w w':World} {own:Nat->Nat} (k:VB B w w'):LF B w w' own own:=⟨fun _ _=>rfl,VisF.of_vis k.1,k.2⟩
structure LiveM (w:World) (B:Nat) (own:Nat->Nat) (gl gk gp rate:Nat) (mv:Int) (R P:Nat) (L T:List Nat) (pr:List (Nat×Nat)):Prop where
 blk:Bk w gl 87 #[.pointer (some ⟨gk,0,none⟩),.pointer (some ⟨gp,0,none⟩),.int .i64 (rate:Int),.int .i64 mv]
 col:own gl=3
 walk:WalkE w B own gk L T
 perm:PermE w (fun b=>own b=1) gp R P pr
section
variable {w w' : World} {B : Nat} {own own' : Nat -> Nat} {gl gk gp rate : Nat} {mv : Int} {R P R' P' : Nat} {L T L' T' : List Nat} {pr pr' : List (Nat × Nat)}
theorem LiveM.bnd (h:LiveM w B own gl gk gp rate mv R P L T pr):∀b,own b≠0->B<=b/\b < w.heap.size:=h.walk.bnd
theorem LiveM.lo (h:LiveM w B own gl gk gp rate mv R P L T pr):B<=gl:=(h.bnd gl (by rw [h.col];decide)).1
theorem LiveM.gw (h:LiveM w B own gl gk gp rate mv R P L T pr):∃gv gt,Bk w gk 99 #[.pointer (some ⟨gv,0,none⟩),.pointer (some ⟨gt,0,none⟩)]/\WaveAt w B gv L:=by
 obtain ⟨gv,gt,h1,_,h2,_⟩:=h.walk;exact ⟨gv,gt,h1,h2.at⟩
theorem LiveM.vis (h:LiveM w B own gl gk gp rate mv R P L T pr) (k:Vis w w'):LiveM w' B own gl gk gp rate mv R P L T pr:=
 ⟨k.bk h.blk dC dC,h.col,h.walk.vis k,h.perm.vis k⟩
theorem LiveM.walkOp (h:LiveM w B own gl gk gp rate mv R P L T pr) (hw:WalkE w' B own' gk L' T') (g:Grew w w' own own'):LiveM w' B own' gl gk gp rate mv R P L' T' pr/\LF B w w' own own':=by
 have hb:=h.bnd;refine ⟨⟨g.keep.bk h.blk (fun f=>by have:=h.col;omega),by rw [g.old _ h.blk.lt];exact h.col,hw,(h.perm.keep g.keep fun b f=>by omega).mono fun b _ f=>?_⟩,g.old,VisF.of_keep (g.keep.mono fun b _ f=>by omega),g.keep.mono fun b _ f=>(hb b oM).1⟩;rw [g.old b (hb b oM).2];exact f
theorem LiveM.permOp (h:LiveM w B own gl gk gp rate mv R P L T pr) (hp:PermE w' (Gw (fun b=>own b=1) w.heap.size) gp R' P' pr') (k:Keep (fun b=>own b=1) w w'):LiveM w' B (dQ own w.heap.size w'.heap.size 1) gl gk gp rate mv R' P' L T pr'/\LF B w w' own (dQ own w.heap.size w'.heap.size 1):=by
 have hb:=h.bnd;have hold:∀b,b < w.heap.size->dQ own w.heap.size w'.heap.size 1 b=own b:=fun b hlt=>by unfold dQ;rw [zBx hlt]
 have hB:B<=w.heap.size:=by have:=h.lo;have:=h.blk.lt;omega
 have hsz:=k.size;refine ⟨⟨k.bk h.blk (fun f=>by have:=h.col;omega),by rw [hold _ h.blk.lt];exact h.col,(h.walk.far k fun b f=>⟨by omega,by omega⟩).paint (fun b hlt h2=>?_) (fun b hne=>?_),hp.mono fun b hlt f=>?_⟩,hold,VisF.of_keep (k.mono fun b _ f=>by omega),k.mono fun b _ f=>(hb b oM).1⟩;by_cases c:b < w.heap.size;exact hold b c;have:=(hb b oM).2;omega;unfold dQ at hne;by_cases c:b < w.heap.size;rw [zBx c] at hne;have:=hb b hne;exact ⟨this.1,by omega⟩;rw [zBw c] at hne;by_cases c2:b < w'.heap.size;exact ⟨by omega,c2⟩;rw [zBw c2] at hne;exact absurd rfl hne
 · rcases f with f | f;rw [hold b (hb b oM).2];exact f
   · unfold dQ;rw [zBw oM,zBx hlt]
theorem LiveM.setMv (h:LiveM w B own gl gk gp rate mv R P L T pr) (mv':Int):LiveM (w.setCell ⟨gl,3,none⟩ (.int .i64 mv')) B own gl gk gp rate mv' R P L T pr/\LF B w (w.setCell ⟨gl,3,none⟩ (.int .i64 mv')) own own:=by
 have k:Keep (fun b=>b=gl) w (w.setCell ⟨gl,3,none⟩ (.int .i64 mv')):=Keep.setCell (F:=fun b=>b=gl) (Keep.refl _ _) (p:=⟨gl,3,none⟩) (.inl rfl) _;have hc:=h.col;refine ⟨⟨h.blk.set 3 _,h.col,h.walk.far k fun b f=>?_,h.perm.keep k fun b f e=>?_⟩,fun _ _=>rfl,VisF.of_keep (k.mono fun b _ f=>?_),k.mono fun b _ f=>?_⟩;have e:b=gl:=f;subst e;exact ⟨by omega,by omega⟩;have e':b=gl:=e;subst e';omega;have e':b=gl:=f;subst e';show own b≠0;omega;have e':b=gl:=f;subst e';exact h.lo
theorem LiveM.len (h:LiveM w B own gl gk gp rate mv R P L T pr):LvW w B gl L∨¬T.Perm L:=by
 by_cases c:T.Perm L;exact .inl ⟨gk,_,_,_,h.blk,h.walk.at c⟩;exact .inr c
theorem LiveM.permR (h:LiveM w B own gl gk gp rate mv R P L T pr):PermR w gp R P pr:=by
 obtain ⟨⟨ga,vl,vo,vt,vf,ks,C,tk,fr,hx,e⟩,hs,hb⟩:=h.perm;rw [e] at hs;have hs0:=List.pairwise_map.1 hs;have hkl:=fZ hx.nd hx.at_.lt;exact ⟨0,ga,vl,vo,vt,vf,ks,C,tk,fr,hx.at_,hs0,hx.sz,by have:=hx.sz;omega,e⟩
theorem LiveM.g (h:LiveM w B own gl gk gp rate mv R R L T pr) (hT:T.Perm L):LiveG w B gl gk gp rate R L pr:=⟨⟨mv,h.blk⟩,h.walk.at hT,h.permR⟩
end
section
variable {w : World} {B : Nat} {own : Nat -> Nat} {gl gk gp rate : Nat} {mv : Int} {R P : Nat} {L T : List Nat} {pr : List (Nat × Nat)}
theorem aAM (i s:Nat) (h:LiveM w B own gl gk gp rate mv R P L T pr) (his:L[i]?=some s) (hL:∀x∈L,x < 257) (hl:L.length<=1000) (hT:T.length<=1000):
 Calls Tryz.prog 61 #[.pointer (some ⟨gl,0,none⟩),.int .i64 (i:Int)] w fun e w'=>e=.returned (.int .i64 ((sZ L T s i:Nat):Int))/\VB B w w':=by
 have hb:=oC B gk L T i s w h.walk.atT his hL hl hT;have c0:=h.blk.cell 0;obtain ⟨r,hr⟩:=eqx (sZ L T s i);rw [hr] at hb⊢;clear h his hL hr;go_enter Tryz.func61,Tryz.ntmps61;go_wp2_with fail;refine hb.mono ?_;rintro e w' ⟨rfl,hv⟩;have Hv:=lhd hv;clear hb hv;go_wp2_with fail;go_ret;exact ⟨rfl,Hv.out⟩
theorem sW (i:Nat) (w:World) (gl:Nat):
 Calls Tryz.prog 59 #[.pointer (some ⟨gl,0,none⟩),.int .i64 0,.int .i64 (i:Int)] w fun e w'=>e=.returned (.int .i64 (-1))/\w=w':=by
 go_enter Tryz.func59,Tryz.ntmps59;go_wp2_with fail;go_ret;exact ⟨rfl,rfl⟩
theorem wW (at_ i s:Nat) (h:LiveM w B own gl gk gp rate mv R P L T pr) (ha:0 < at_) (his:L[i]?=some s) (hL:∀x∈L,x < 257) (hl:L.length<=1000) (hT:T.length<=1000):
 Calls Tryz.prog 59 #[.pointer (some ⟨gl,0,none⟩),.int .i64 (at_:Int),.int .i64 (i:Int)] w fun e w'=>e=.returned (.int .i64 ((sZ L T s i:Nat):Int))/\VB B w w':=by
 have hb:=oC B gk L T i s w h.walk.atT his hL hl hT;have c0:=h.blk.cell 0;have ha0:((at_:Int)==0)=false:=by rw [zCb];omega
 obtain ⟨r,hr⟩:=eqx (sZ L T s i);rw [hr] at hb⊢;clear h his hL hr;go_enter Tryz.func59,Tryz.ntmps59;go_wp2_with fail;refine hb.mono ?_;rintro e w' ⟨rfl,hv⟩;have Hv:=lhd hv;clear hb hv;go_wp2_with fail;go_ret;exact ⟨rfl,Hv.out⟩
end
def inI (r c:Int):Int:=if r>=c then r+1 else r
def aCU (r g:Int):Int:=if r > g then r - 1 else r
theorem aAe (r c:Nat):inI (r:Int) (c:Int)=((inR r c:Nat):Int):=by
 unfold inI inR;split <;> split <;> omega
theorem pN (r g:Nat):aCU (r:Int) (g:Int)=((bM r g:Nat):Int):=by
 unfold aCU bM;split <;> split <;> omega
theorem aHF (c:Nat):inI (-1) (c:Int)=-1:=by unfold inI;rw [zBw oM]
theorem aF8 (c:Nat):aCU (-1) (c:Int)=-1:=by unfold aCU;rw [zBw oM]
theorem aAN (r c:Int) (w:World) (hr:-1000000<=r/\r<=1000000):
 Calls Tryz.prog 67 #[.int .i64 r,.int .i64 c] w fun e w'=>e=.returned (.int .i64 (inI r c))/\w=w':=by
 unfold inI;by_cases h:r>=c
 · rw [zBx h];have e1:wrap64 (r+1)=r+1:=dL oM oM;go_enter Tryz.func67,Tryz.ntmps67;go_wp2_with fail;go_ret;exact ⟨rfl,rfl⟩
 · rw [zBw h];go_enter Tryz.func67,Tryz.ntmps67;go_wp2_with fail;go_ret;exact ⟨rfl,rfl⟩
theorem qQ (r c:Int) (w:World) (hr:-1000000<=r/\r<=1000000):
 Calls Tryz.prog 140 #[.int .i64 r,.int .i64 c] w fun e w'=>e=.returned (.int .i64 (aCU r c))/\w=w':=by
 unfold aCU;by_cases h:r > c
 · rw [zBx h];have e1:IntKind.i64.wrap (r - 1)=r - 1:=(by rw [IntKind.wrap_i64];omega);go_enter Tryz.func140,Tryz.ntmps140;go_wp2_with fail;go_ret;exact ⟨rfl,rfl⟩
 · rw [zBw h];go_enter Tryz.func140,Tryz.ntmps140;go_wp2_with fail;go_ret;exact ⟨rfl,rfl⟩
theorem aDG (n cur a:Nat) (w:World) (hn:0 < n∨¬cur < a) (hb:n<=1000000):
 Calls Tryz.prog 138 #[.int .i64 (n:Int),.int .i64 (cur:Int),.int .i64 (a:Int)] w fun e w'=>e=.returned (.int .i64 ((aGU n cur a:Nat):Int))/\w=w':=by
 unfold aGU;by_cases h:cur < a
 · obtain ⟨m,hm⟩:∃m,n=m+1:=⟨n - 1,by omega⟩;subst hm;have h1:(cur:Int) < (a:Int):=oM;have e0:IntKind.i64.wrap (((m+1:Nat):Int) - 1)=(m:Int):=(by rw [IntKind.wrap_i64];omega);obtain ⟨n,hn2⟩:=eqx (m+1);rw [hn2] at e0⊢;have hm2:(if cur < a then n - 1 else n)=m:=(by rw [zBx h];omega);simp only [hm2];by_cases h2:a<=m
   · have h3:(m:Int)>=(a:Int):=oM;have e1:wrap64 ((m:Int)+1)=((m+1:Nat):Int):=(by rw [dL oM oM];rfl);rw [zBx h2];clear hm2 hn2;go_enter Tryz.func138,Tryz.ntmps138;go_wp2_with fail;go_ret;exact ⟨rfl,rfl⟩
   · have h3:¬(m:Int)>=(a:Int):=oM;rw [zBw h2];clear hm2 hn2;go_enter Tryz.func138,Tryz.ntmps138;go_wp2_with fail;go_ret;exact ⟨rfl,rfl⟩
 · have h1:¬(cur:Int) < (a:Int):=oM;have hm2:(if cur < a then n - 1 else n)=n:=(by rw [zBw h]);simp only [hm2];by_cases h2:a<=n
   · have h3:(n:Int)>=(a:Int):=oM;have e1:wrap64 ((n:Int)+1)=((n+1:Nat):Int):=(by rw [dL oM oM];rfl);rw [zBx h2];clear hm2;go_enter Tryz.func138,Tryz.ntmps138;go_wp2_with fail;go_ret;exact ⟨rfl,rfl⟩
   · have h3:¬(n:Int)>=(a:Int):=oM;rw [zBw h2];clear hm2;go_enter Tryz.func138,Tryz.ntmps138;go_wp2_with fail;go_ret;exact ⟨rfl,rfl⟩
theorem aD7 (gl:Nat) (a b c:Value) (mv at_ last:Int) (w:World) (h:Bk w gl 87 #[a,b,c,.int .i64 mv]) (h0:0<=at_) (h1:at_<=last):
 Calls Tryz.prog 54 #[.pointer (some ⟨gl,0,none⟩),.int .i64 at_,.int .i64 last] w fun e w'=>e=.returned (.int .i64 0)/\w'=w.setCell ⟨gl,3,none⟩ (.int .i64 0):=by
 have c3:w.cell? ⟨gl,3,none⟩=some (.int .i64 mv):=(h.cell 3).trans rfl;have f3:=h.frozen 3;have n0:decide (at_ < 0)=false:=zBy oM;have n1:¬at_ > last:=oM;have n2:¬last < at_:=oM;clear h;go_enter Tryz.func54,Tryz.ntmps54;go_wp2_with fail;go_ret;exact ⟨rfl,rfl⟩
end Go.Proofs.YtnhmjomhloainaaGreatDoor
