/- Lemmas of the walk. Conditions: each its own. -/
import Derived.Test.YthldmddkfbijhaaGreatDoorPsr12
import Derived.Test.YthldmddkfbijhaaGreatDoorProg
import Derived.Test.YthldmddkfbijhaaGreatDoorShl
import Derived.Test.YthldmddkfbijhaaGreatDoorShi
set_option linter.all false
set_option maxRecDepth 100000
set_option maxHeartbeats 4000000
namespace Go.Proofs.YthldmddkfbijhaaGreatDoor
section
open Go.RowKit
noncomputable def ltP (l:List Nat) (p x:Nat):Bool:=@decide (sufLt l x p) (Classical.propDecidable _)
theorem rM (l:List Nat) (p x:Nat):ltP l p x=true↔sufLt l x p:=by
 unfold ltP;exact @decide_eq_true_iff _ (Classical.propDecidable _)
theorem aAI {l rs:List Nat} (h:IsSuf l rs) (i:Nat) (hi:i < rs.length):rs.countP (ltP l rs[i])=i:=by
 have h1:(rs.take i).countP (ltP l rs[i])=i:=by rw [List.countP_eq_length.2 fun x hx=>?_];rw [zAj];omega;obtain ⟨k,hk,rfl⟩:=zBo.1 hx;rw [zAj] at hk;rw [List.getElem_take,rM];exact zAr.1 h.sorted k i oM hi oM
 have h2:(rs.drop i).countP (ltP l rs[i])=0:=List.countP_eq_zero.2 fun x hx hp=>by obtain ⟨k,hk,rfl⟩:=zBo.1 hx;rw [zAw] at hk;rw [List.getElem_drop,rM] at hp;rcases zBa k with h0 | h0;subst h0;exact sufLt.asymm hp hp;exact sufLt.asymm hp (zAr.1 h.sorted i (i+k) hi oM oM)
 have e:rs.countP (ltP l rs[i])=(rs.take i++rs.drop i).countP (ltP l rs[i]):=congrArg (List.countP _) (zAu i rs).symm;rw [e,List.countP_append];omega
theorem aCf {l rs:List Nat} (h:IsSuf l rs) (P:Nat->Bool) (hd:∀x y,sufLt l x y->P y=true->P x=true) (s:Nat):((aE l rs).take (rs.countP P)).count s=(List.range l.length).countP (fun p=>decide (bL l p=s)&&P p):=by
 rw [aE,<-List.map_take,tF h.sorted hd,<-h.count,List.count_eq_countP,List.countP_map,List.countP_filter];refine List.countP_congr fun p _=>?_;simp [Function.comp,and_comm]
theorem lf {l rs:List Nat} {m:Nat} (h:IsSuf l rs) (he:EndOk l m) {i j p:Nat} (hi:i < rs.length) (hj:j < rs.length) (hip:rs[i]=p+1) (hjp:rs[j]=p):cJ (aE l rs) (l.getD p 0) i=j:=by
 have hlen:=he.len;have hpm:p < m:=by have:=h.lt (zBj hi);omega
 have hs:=he.pos p hpm;obtain ⟨s,hsd⟩:=eqx (l.getD p 0);rw [hsd] at hs⊢;have ci:=aAI h i hi;have cj:=aAI h j hj;rw [hip] at ci;rw [hjp] at cj;have htk:=aCf h (ltP l (p+1)) (fun x y hxy hy=>by rw [rM] at hy⊢;exact hxy.trans hy) s;rw [ci] at htk;rw [h.count] at cj;unfold cJ;rw [htk];have e1:(aE l rs).countP (fun x=>decide (x < s))=(List.range (m+1)).countP (fun p=>decide (l.getD p 0 < s)):=by
  rw [aE,List.countP_map,h.count,hlen];refine gN _ _ ?_ fun p hp=>?_
  · show decide (bL l 0 < s)=_;rw [bQ oM,hlen,zBb]
  · show decide (bL l (p+1) < s)=_;rw [bE oM]
 have e2:(List.range l.length).countP (fun x=>decide (bL l x=s)&&ltP l (p+1) x)=(List.range (m+1)).countP (fun x=>decide (l.getD x 0=s)&&ltP l (p+1) (x+1)):=by
  rw [hlen];refine gN _ _ ?_ fun x hx=>?_;show (decide (bL l 0=s)&&_)=(decide (l.getD m 0=s)&&_);rw [bQ oM,hlen,zBb,he.last];have:decide (0=s)=false:=(by simp;omega);rw [this];rfl
  · show (decide (bL l (x+1)=s)&&_)=_;rw [bE oM]
 rw [e1,e2,<-tS,<-cj,hlen];refine List.countP_congr fun x hx=>?_;have hx':x < m+1:=(by simpa using hx);rw [rM,iK,eZ (by omega:x < l.length),eZ (by omega:p < l.length),hsd];simp only [Bool.or_eq_true,zBd,zCa,rM];constructor;rintro (h1 |⟨h1,h2⟩);exact .inl oM;exact .inr ⟨by omega,h2⟩;rintro (h1 |⟨h1,h2⟩);exact .inl oM;exact .inr ⟨by omega,h2⟩;intro x _;simp only [zBd,zCa];rintro ⟨h1,h2,_⟩;omega
theorem rP {l rs:List Nat} {m:Nat} (he:EndOk l m) {i p:Nat} (hi:i < rs.length) (hip:rs[i]=p+1) (hp:p < m):(aE l rs)[i]'(by rw [bU];exact hi)=l.getD p 0:=by
 have hlen:=he.len;unfold aE;rw [List.getElem_map,hip,bE oM]
theorem IsSuf.row {l rs:List Nat} (h:IsSuf l rs) {p:Nat} (hp:p < l.length):∃j,∃hj:j < rs.length,rs[j]=p:=by
 obtain ⟨j,hj,e⟩:=zBo.1 (h.mem hp);exact ⟨j,hj,e⟩
theorem aBD (L:List Nat) (k lv:Nat) (hk:k < L.length):(aL L lv (bG L[k] lv))[fU L k L[k] lv]?=some (gO L[k] lv):=by
 unfold aL fU;have e:L=L.take k++L[k]::L.drop (k+1):=by rw [<-zAx hk,zAu]
 generalize hs:L[k]=s at e⊢;generalize L.take k=A at e⊢;rw [e,List.filter_append,List.filter_cons,zBx (by simp),zAz,List.countP_eq_length_filter,zAo (by simp)];simp
def TC (lv p:Nat):Nat:=16+512*lv+p
theorem aK7 {lv p lv' p':Nat} (hp:p < 512) (hp':p' < 512) (h:TC lv p=TC lv' p'):lv=lv'/\p=p':=by
 unfold TC at h;omega
theorem aKI {lv p:Nat} (h:lv < 9) (hp:p < 2 ^ lv):p < 512:=by
 have:2 ^ lv<=2 ^ 9:=zBp dC oM;have e:(2:Nat)^ 9=512:=dC;omega
def cY (own:Nat->Nat) (n m c b:Nat):Nat:=if b < n then own b else if b < m then c else 0
structure WaveS (w:World) (B:Nat) (own:Nat->Nat) (gv:Nat) (S:Nat->Value) (Ls:Nat->List Nat) (n v:Int):Prop where
 blk:Bk w gv 154 (wcells S n v)
 base:B<=gv/\own gv=2
 rows:∀lv,lv < 9->∃G:Nat->Nat,w.ownsRow B 157 3 (S lv) (2 ^ lv) (dZ G lv (2 ^ lv))/\(∀b,(S lv).ownBlock=some b->own b=2)/\∀p,p < 2 ^ lv->TreeE w (fun b=>own b=TC lv p) (G p) (aL (Ls lv) lv p)
 bnd:∀b,own b≠0->B<=b/\b < w.heap.size
def WaveE (w:World) (B:Nat) (own:Nat->Nat) (gv:Nat) (L:List Nat):Prop:=∃S v,WaveS w B own gv S (fun _=>L) (L.length:Int) v
theorem WaveS.vis {w w':World} {B:Nat} {own:Nat->Nat} {gv:Nat} {S:Nat->Value} {Ls:Nat->List Nat} {n v:Int} (h:WaveS w B own gv S Ls n v) (k:Vis w w'):∃v',WaveS w' B own gv S Ls n v':=by
 obtain ⟨v',h1⟩:=k.waveC h.blk;refine ⟨v',h1,h.base,fun lv hl=>?_,fun b hb=>⟨(h.bnd b hb).1,zAl (h.bnd b hb).2 k.size⟩⟩;obtain ⟨G,g1,g2,g3⟩:=h.rows lv hl;exact ⟨G,k.own g1 dC dC,g2,fun p hp=>(g3 p hp).vis k⟩
theorem WaveE.vis {w w':World} {B:Nat} {own:Nat->Nat} {gv:Nat} {L:List Nat} (h:WaveE w B own gv L) (k:Vis w w'):WaveE w' B own gv L:=by
 obtain ⟨S,v,h⟩:=h;obtain ⟨v',h'⟩:=h.vis k;exact ⟨S,v',h'⟩
theorem WaveE.at {w:World} {B:Nat} {own:Nat->Nat} {gv:Nat} {L:List Nat} (h:WaveE w B own gv L):WaveAt w B gv L:=by
 obtain ⟨S,v,h⟩:=h;refine ⟨h.base.1,S,v,h.blk,fun lv hl=>?_⟩;obtain ⟨G,g1,g2,g3⟩:=h.rows lv hl;refine ⟨G,g1,fun p hp=>⟨?_,(g3 p hp).at⟩⟩;have h0:=(g3 p hp).1;exact (h.bnd (G p) (by rw [h0];unfold TC;omega)).1
theorem WaveS.edit {w w':World} {B:Nat} {own:Nat->Nat} {gv:Nat} {S:Nat->Value} {Ls:Nat->List Nat} {n v v':Int} (h:WaveS w B own gv S Ls n v) {lv p gx:Nat} (hlv:lv < 9) (hp:p < 2 ^ lv) {G:Nat->Nat} (hG:w.ownsRow B 157 3 (S lv) (2 ^ lv) (dZ G lv (2 ^ lv)))
 (hgx:own gx < 16) (hgx2:∀cs,¬Bk w gx 157 cs) {bs':List Bool} (ht:TreeE w' (Gw (fun b=>own b=TC lv p) w.heap.size) (G p) bs') (hk:Keep (fun x=>own x=TC lv p∨x=gv∨x=gx) w w') (hb:Bk w' gv 154 (wcells S n v'))
 {L':List Nat} (hL:aL L' lv p=bs') (hL2:∀q,q≠p->aL L' lv q=aL (Ls lv) lv q):
 WaveS w' B (cY own w.heap.size w'.heap.size (TC lv p)) gv S (fun l=>if l=lv then L' else Ls l) n v':=by
 have hB:B<=w.heap.size:=zAk h.base.1 (zCm h.blk.lt);have hold:∀b,b < w.heap.size->cY own w.heap.size w'.heap.size (TC lv p) b=own b:=fun b hb=>by unfold cY;rw [zBx hb]
 refine ⟨hb,⟨h.base.1,by rw [hold _ h.blk.lt];exact h.base.2⟩,fun l hl=>?_,fun b hb'=>?_⟩
 · obtain ⟨G',g1,g2,g3⟩:=h.rows l hl;refine ⟨G',aA g1 fun b cs hbo hk'=>hk.bk hk' fun f=>?_,fun b hbo=>?_,fun q hq=>?_⟩;rcases f with f | f | f;rw [g2 b hbo] at f;unfold TC at f;omega;subst f;exact absurd (aR hk' h.blk).1 dC;subst f;exact hgx2 cs hk';rw [hold _ (g1.lt b hbo).2];exact g2 b hbo
   · have hkeep:(l≠lv∨q≠p)->TreeE w' (fun b=>cY own w.heap.size w'.heap.size (TC lv p) b=TC l q) (G' q) (aL (Ls l) l q):=fun hne=>by
        have ht':=(g3 q hq).keep hk fun b t cs hin hk' hf f=>by rcases f with f | f | f;rw [hf] at f;obtain ⟨e1,e2⟩:=aK7 (aKI hl hq) (aKI hlv hp) f;rcases hne with h1 | h1;exact h1 e1;exact h1 e2;subst f;rw [(aR hk' h.blk).1] at hin;exact absurd hin dC;subst f;rw [hf] at hgx;unfold TC at hgx;omega
        have hmin:TreeE w (fun b=>own b=TC l q) (G' q) (aL (Ls l) l q):=g3 q hq;refine ht'.mono fun b hb' hf=>?_;have hlt:b < w.heap.size:=(h.bnd b (by rw [hf];unfold TC;omega)).2;rw [hold b hlt];exact hf
     by_cases e1:l=lv
     · subst e1;rw [zBx rfl];by_cases e2:q=p
       · subst e2;rw [hL]
         have hGG:G' q=G q:=by
           have h1:=g1.1;have e1:=(fO G' l (2 ^ l) q hq).1;have e2:=(fO G l (2 ^ l) q hq).1
           have e3:dZ G' l (2 ^ l)=dZ G l (2 ^ l):=by
             rcases g1.2 with ⟨a1,a2⟩|⟨g,cap,cur,a1,a2,a3,a4,a5,a6,a7⟩;have:=Nat.two_pow_pos l;omega
             · rcases hG.2 with ⟨c1,c2⟩|⟨g',cap',cur',c1,c2,c3,c4,c5,c6,c7⟩;have:=Nat.two_pow_pos l;omega
               · rw [a1] at c1;injection c1 with c1 _ _;injection c1 with c1;injection c1 with c1 _;subst c1;obtain ⟨_,rfl⟩:=aR a3 c3;rw [<-a7,<-c7]
           rw [e3,e2] at e1;injection e1 with e1;injection e1 with e1;injection e1 with e1;injection e1 with e1 _;exact e1.symm
         rw [hGG];refine ht.mono fun b hb' hf=>?_;rcases hf with hf | hf;rw [hold b (h.bnd b (by rw [hf];unfold TC;omega)).2];exact hf
         · unfold cY;rw [zBw oM,zBx hb']
       rw [hL2 q e2];exact hkeep (.inr e2)
     rw [zBw e1];exact hkeep (.inl e1)
 unfold cY at hb';by_cases c:b < w.heap.size;rw [zBx c] at hb';exact ⟨(h.bnd b hb').1,zAl c hk.size⟩;rw [zBw c] at hb';by_cases c2:b < w'.heap.size;exact ⟨by omega,c2⟩;rw [zBw c2] at hb';exact absurd rfl hb'
theorem WaveS.far {w w':World} {B:Nat} {own:Nat->Nat} {gv:Nat} {S:Nat->Value} {Ls:Nat->List Nat} {n v:Int} (h:WaveS w B own gv S Ls n v) {H:Nat->Prop} (k:Keep H w w') (hH:∀b,H b->own b≠2/\own b < 16):WaveS w' B own gv S Ls n v:=by
 refine ⟨k.bk h.blk (fun f=>by have:=hH _ f;have:=h.base.2;omega),h.base,fun lv hl=>?_,fun b hb=>⟨(h.bnd b hb).1,zAl (h.bnd b hb).2 k.size⟩⟩;obtain ⟨G,g1,g2,g3⟩:=h.rows lv hl;exact ⟨G,aA g1 fun b cs hbo hk'=>k.bk hk' (fun f=>by have:=hH _ f;have:=g2 b hbo;omega),g2,fun p hp=>(g3 p hp).keep k fun b t cs hin hk' hf f=>by
  have:=hH b f;rw [hf] at this;unfold TC at this;omega⟩
theorem WaveE.far {w w':World} {B:Nat} {own:Nat->Nat} {gv:Nat} {L:List Nat} (h:WaveE w B own gv L) {H:Nat->Prop} (k:Keep H w w') (hH:∀b,H b->own b≠2/\own b < 16):WaveE w' B own gv L:=by
 obtain ⟨S,v,h⟩:=h;exact ⟨S,v,h.far k hH⟩
theorem WaveS.paint {w:World} {B:Nat} {own own':Nat->Nat} {gv:Nat} {S:Nat->Value} {Ls:Nat->List Nat} {n v:Int} (h:WaveS w B own gv S Ls n v) (h1:∀b,b < w.heap.size->2<=own b->own' b=own b) (h2:∀b,own' b≠0->B<=b/\b < w.heap.size):WaveS w B own' gv S Ls n v:=by
 refine ⟨h.blk,⟨h.base.1,by rw [h1 gv h.blk.lt (by rw [h.base.2];omega)];exact h.base.2⟩,fun lv hl=>?_,h2⟩;obtain ⟨G,g1,g2,g3⟩:=h.rows lv hl;refine ⟨G,g1,fun b hbo=>?_,fun p hp=>(g3 p hp).mono fun b hb hf=>?_⟩;rw [h1 b (g1.lt b hbo).2 (by rw [g2 b hbo];omega)];exact g2 b hbo;rw [h1 b hb (by rw [hf];unfold TC;omega)];exact hf
theorem WaveE.paint {w:World} {B:Nat} {own own':Nat->Nat} {gv:Nat} {L:List Nat} (h:WaveE w B own gv L) (h1:∀b,b < w.heap.size->2<=own b->own' b=own b) (h2:∀b,own' b≠0->B<=b/\b < w.heap.size):WaveE w B own' gv L:=by
 obtain ⟨S,v,h⟩:=h;exact ⟨S,v,h.paint h1 h2⟩
theorem aDx (gt lv p:Nat) (b:Bool) (w:World) (hp:p<=1000):
 Calls Tryz.prog 115 #[.agg #[gt,(lv:Int),(p:Int)],.bool b] w fun e w'=>e=.returned (.int .i64 ((2*p+(if b then 1 else 0):Nat):Int))/\Below w.heap.size w w':=by
 have e1:IntKind.i64.wrap (2*(p:Int))=2*(p:Int):=by rw [IntKind.wrap_i64];omega
 have e2:IntKind.i64.wrap (2*(p:Int)+1)=2*(p:Int)+1:=by rw [IntKind.wrap_i64];omega
 go_enter Tryz.func115,Tryz.ntmps115;cases b with
 | true=>
   go_wp2_with fail;go_ret;exact ⟨fL (by simp),bR.alloc nL _⟩
 | false=>
   go_wp2_with fail;go_ret;exact ⟨fL (by simp),bR.alloc nL _⟩
theorem dY (B gv:Nat) (L:List Nat) (k s:Nat) (w:World) (h:WaveAt w B gv L) (hk:k < L.length) (hks:L[k]=s) (hL:∀x∈L,x < 257) (hn:L.length<=1000):
 Calls Tryz.prog 53 #[gv,(k:Int)] w fun e w'=>e=.returned (.tuple #[(s:Int),.int .i64 0])/\VB B w w':=by
 have hs:s < 257:=by rw [<-hks];exact hL _ (zBj hk)
 have h90:=lV L k s (zCm hk) hL hs;have p0:=oL s hs;have p9:=oO s;have hat:∀lv,(aL L lv (bG s lv))[fU L k s lv]?=some (gO s lv):=fun lv=>by have:=aBD L k lv hk;rw [hks] at this;exact this
 obtain ⟨hBg,S,v,hb,hrows⟩:=h;have hlt:=hb.lt;have hB:B<=w.heap.size:=oM;have hset:=(hb.set 10 (.int .i64 0)).alloc (.cells #[(k:Int)] 3);rw [cO] at hset;have hv1:=VisK.alloc (VB.set_wave hb hBg 0) (.cells #[(k:Int)] 3);have hgk:=Bk.new (w.setCell ⟨gv,10,none⟩ (.int .i64 0)) 3 #[(k:Int)];rw [show (w.setCell ⟨gv,10,none⟩ (.int .i64 0)).heap.size=w.heap.size by simp [World.setCell]] at hgk;obtain ⟨n,hnn⟩:=eqx L.length;rw [hnn] at hb hset hk hn;have f10:=hb.frozen 10;have x10:w.cell? ⟨gv,10,none⟩=some (.int .i64 v):=(hb.cell 10).trans (bI S n v).2.2.2.2.2.2.2.2.2.2;obtain ⟨W,hW⟩:=eqx ((w.setCell ⟨gv,10,none⟩ (.int .i64 0)).alloc (.cells #[(k:Int)] 3));rw [hW] at hset hv1 hgk;obtain ⟨d0,d1,d2,d3,d4,d5,d6,d7,d8,d9,d10⟩:=bI S (n:Int) 0;have c0:∀q,(W.drewN q).cell? ⟨gv,0,none⟩=some (S 0):=fun q=>(hset.cell 0).trans d0;have c1:∀q,(W.drewN q).cell? ⟨gv,1,none⟩=some (S 1):=fun q=>(hset.cell 1).trans d1;have c2:∀q,(W.drewN q).cell? ⟨gv,2,none⟩=some (S 2):=fun q=>(hset.cell 2).trans d2;have c3:∀q,(W.drewN q).cell? ⟨gv,3,none⟩=some (S 3):=fun q=>(hset.cell 3).trans d3;have c4:∀q,(W.drewN q).cell? ⟨gv,4,none⟩=some (S 4):=fun q=>(hset.cell 4).trans d4;have c5:∀q,(W.drewN q).cell? ⟨gv,5,none⟩=some (S 5):=fun q=>(hset.cell 5).trans d5;have c6:∀q,(W.drewN q).cell? ⟨gv,6,none⟩=some (S 6):=fun q=>(hset.cell 6).trans d6;have c7:∀q,(W.drewN q).cell? ⟨gv,7,none⟩=some (S 7):=fun q=>(hset.cell 7).trans d7;have c8:∀q,(W.drewN q).cell? ⟨gv,8,none⟩=some (S 8):=fun q=>(hset.cell 8).trans d8;have c9:W.cell? ⟨gv,9,none⟩=some (.int .i64 (n:Int)):=(hset.cell 9).trans d9;have ck:W.cell? ⟨w.heap.size,0,none⟩=some (.int .i64 (k:Int)):=(hgk.cell 0).trans rfl;have c9q:∀q,(W.drewN q).cell? ⟨gv,9,none⟩=some (.int .i64 (n:Int)):=fun q=>c9;have ckq:∀q,(W.drewN q).cell? ⟨w.heap.size,0,none⟩=some (.int .i64 (k:Int)):=fun q=>ck;have hk0:decide ((k:Int) < 0)=false:=by simp
 have hkn:¬n<=k:=oM;obtain ⟨Hv1,Hset,Hgk,Hrows,H0,P0,P9,Hat,HL⟩:=hqq9 hv1 hset hgk hrows h90 p0 p9 hat hL;obtain ⟨HN,HW,Hks,Hb0,Hk⟩:=hqq5 hnn hW hks hb hk;clear d0 d1 d2 d3 d4 d5 d6 d7 d8 d9 d10 hv1 hset hgk hrows h90 p0 p9 hat hL hnn hW hb hks hk;go_enter Tryz.func53,Tryz.ntmps53;go_wp2_with fail;rw [HW.out];clear x10 f10;go_quiet (fail);clear c9 ck hk0;go_wp2_with fail;go_loopw [6,30] (fun x i wr=>∃lv:Nat,lv<=9/\i=.int .i64 lv/\x=.int .i64 ((bG s lv:Nat):Int)/\VB B w wr/\Bk wr w.heap.size 3 #[.int .i64 ((fU L k s lv:Nat):Int)]/\w.heap.size < wr.heap.size) (fun _ i _=>9 -(intOf i).toNat)
 case atStart=>exact ⟨0,by omega,rfl,by rw [P0.out];rfl,Hv1.out.below (below_drewN bR _),by rw [H0.out];exact Hgk.out.drewN _,Hgk.out.lt⟩
 case round=>
  obtain ⟨lv,hlv,rfl,rfl,hv,hgk,hgl0⟩:=hrel;by_cases hl9:lv < 9
  · have hix:=ix9 S lv hl9;obtain ⟨G,hown,htr⟩:=Hrows.out lv hl9;obtain ⟨m,hm⟩:=eqx (2 ^ lv);obtain ⟨p,hp⟩:=eqx (bG s lv);have hpm:p < m:=(by rw [<-hm,<-hp];exact mJ s lv hs oM);rw [hm] at hown htr;obtain ⟨g,cap,hSl,hnc,hgl⟩:=World.ownsRow.form hown oM;rw [hSl] at hix hown;obtain ⟨x,hx⟩:=eqx (fU L k s lv);obtain ⟨y,hy⟩:=eqx (fU L k s (lv+1));obtain ⟨b,hbb⟩:=eqx (gO s lv);have hxy:=lW L k s lv hl9;have hxa:=Hat.out lv;rw [hp,hx,hbb,hy] at hxy;rw [hp,hx,hbb] at hxa;have hxl:x < (aL L lv p).length:=(zAc.1 hxa).1;have hxd:(aL L lv p).getD x false=b:=(by rw [zAb,hxa];rfl);have hps:=oN s lv hl9;rw [hp,hbb] at hps;rw [hp];rw [hx] at hgk;have hpI:(p:Int) < (m:Int):=oM;have hrow5:=hv.1.own hown dC dC;obtain ⟨q0,q1,q2⟩:=fO G lv m p hpm;have a0:wr.cell? ⟨g,p*3,none⟩=_:=(World.ownsRow.cellAt hrow5 (p*3) oM).trans q0;have a1:wr.cell? ⟨g,p*3+1,none⟩=_:=(World.ownsRow.cellAt hrow5 (p*3+1) oM).trans q1;have a2:wr.cell? ⟨g,p*3+2,none⟩=_:=(World.ownsRow.cellAt hrow5 (p*3+2) oM).trans q2;obtain ⟨Hgk2,Hxy,Hxl,Hxd,Hps,Htr,Hp,Hb,Hy⟩:=hqq9 hgk hxy hxl hxd hps (htr p hpm) hp hbb hy;have Hv:=lhd hv;clear hown htr hSl hm hp hx hy hbb hxy hxa hxl hxd hps hv hgk hrow5 q0 q1 q2;go_wp2_with fail;obtain ⟨W2,hW2⟩:=eqx ((wr.alloc (.cells #[.pointer (some ⟨G p,0,none⟩),(lv:Int),(p:Int)] 157)).alloc (.cells #[.bool false] 4));have hb2:Below wr.heap.size wr W2:=(by rw [<-hW2];exact (bR.alloc nL _).alloc (by simp) _);have hsh:Bk W2 wr.heap.size 157 #[.pointer (some ⟨G p,0,none⟩),(lv:Int),(p:Int)]:=(by rw [<-hW2];exact (Bk.new wr _ _).alloc _);have hbt:Bk W2 (wr.heap.size+1) 4 #[.bool false]:=(by rw [<-hW2];have h:=Bk.new (wr.alloc (.cells #[.pointer (some ⟨G p,0,none⟩),(lv:Int),(p:Int)] 157)) 4 #[.bool false];rw [World.size_alloc] at h;exact h);rw [hW2];have hv2:VB B w W2:=Hv.out.below hb2;obtain ⟨v2,hw2⟩:=hv2.1.waveC Hb0.out;have ht0:=Htr.out.2.vis Hv.out.1;have hgk2:=Hgk2.out.below hb2 Hgk2.out.lt;refine (aHg gv (G p) w.heap.size (wr.heap.size+1) S n v2 lv p _ (aL L lv p) x wr W2 hw2 ht0 (Vis.of_below hb2) oM hgk2 hbt Hxl.out).mono ?_;rintro e W3 ⟨rfl,hf3,hk3,hbt3⟩;rw [Hxd.out] at hbt3;have hgk3:=hf3.bk hgk2 dC dC (fun h=>absurd (show w.heap.size=wr.heap.size+1 from h) oM);have hsh3:=hf3.bk hsh dC dC (fun h=>absurd (show wr.heap.size=wr.heap.size+1 from h) oM)
    have hv3:VB B wr W3:=⟨VisF.to_vis (VisF.trans (VisF.of_vis (Vis.of_below hb2)) hf3) (fun b hb e=>by have:b=wr.heap.size+1:=e;omega),(Keep.of_below hb2).trans (hk3.mono fun b _ e=>by
        rcases e with rfl | rfl | rfl;exact hBg;exact Htr.out.1
        · omega)⟩
    have hvw3:=Hv.out.trans hv3;obtain ⟨Hgk3,Hsh3,Hbt3,Hv3⟩:=hqq4 hgk3 hsh3 hbt3 hvw3;have hgs3:=hgk3.lt;have hss3:=hsh3.lt;have hbs3:=hbt3.lt;obtain ⟨r,hr⟩:=eqx (bG s (lv+1));have hps2:=Hps.out;rw [hr] at hps2;obtain ⟨Hr,Hps2⟩:=hqq2 hr hps2;have hp512:p<=1000:=(by have h1:=mJ s lv hs oM;have h2:2 ^ lv<=2 ^ 9:=zBp dC oM;rw [Hp.out] at h1;omega);clear hW2 hb2 hsh hbt hv2 hw2 ht0 hgk2 hf3 hk3 hbt3 hgk3 hsh3 hv3 hvw3 hr hps2 a0 a1 a2;go_wp2_with fail;refine wp_region_any kR ?_;refine bZ B 8 [41,42,43,44,45,46,47,48] (fun _=>False) 7 [] (fun _=>True) (is (r:Int)) [is gv,is (.agg #[.pointer (some ⟨G p,0,none⟩),(lv:Int),(p:Int)]),is (x:Int),is (.bool b),is (y:Int),is (.agg #[.pointer (some ⟨G p,0,none⟩),(lv:Int),(p:Int)]),is (.bool b),cR] _ _ rfl dC kR kR kR (trivial) (fun _ _ _ _ _=>trivial) (gV _ _) tA1 ?_ ?_
    · refine bM ?_;refine pH3 0 (.pointer (some ⟨gv,0,none⟩)) ?_;refine sC3 (fun ev w5 hS _ _ _ hold _ _ _ _ hK=>?_) ?_
      · replace hS:VFB B (fun _=>False) W3 w5:=fD hS;have e9:ev (.tmp 9)=.pointer (some ⟨wr.heap.size,0,none⟩):=hold 9 kR;have hs5:=hS.1.bk Hsh3.out dC dC (fun h=>h);have s0:w5.cell? ⟨wr.heap.size,0,none⟩=some (.pointer (some ⟨G p,0,none⟩)):=(hs5.cell 0).trans rfl;have s1:w5.cell? ⟨wr.heap.size,1,none⟩=some (.int .i64 (lv:Int)):=(hs5.cell 1).trans rfl;have s2:w5.cell? ⟨wr.heap.size,2,none⟩=some (.int .i64 (p:Int)):=(hs5.cell 2).trans rfl;go_simp;exact hK _ _ (aK vR) rfl
      refine sC3 (fun ev w5 hS _ _ _ hold _ _ _ _ hK=>?_) ?_
      · replace hS:VFB B (fun _=>False) W3 w5:=fD hS;have e3:ev (.tmp 3)=.pointer (some ⟨w.heap.size,0,none⟩):=hold 3 kR;have k5:w5.cell? ⟨w.heap.size,0,none⟩=some (.int .i64 (x:Int)):=((hS.1.bk Hgk3.out dC dC (fun h=>h)).cell 0).trans rfl;go_simp;exact hK _ _ (aK vR) rfl
      refine sC3 (fun ev w5 hS _ _ _ hold _ _ _ _ hK=>?_) ?_
      · replace hS:VFB B (fun _=>False) W3 w5:=fD hS;have e10:ev (.tmp 10)=.pointer (some ⟨wr.heap.size+1,0,none⟩):=hold 10 kR;have b5:w5.cell? ⟨wr.heap.size+1,0,none⟩=some (.bool b):=((hS.1.bk Hbt3.out dC dC (fun h=>h)).cell 0).trans rfl;go_simp;exact hK _ _ (aK vR) rfl
      refine sC3 (fun _ w5 hS _ _ _ _ hval _ _ _ hK=>?_) ?_
      · replace hS:VFB B (fun _=>False) W3 w5:=fD hS;have e41:_=_:=hval 0 41 kR rfl;have e42:_=_:=hval 1 42 kR rfl;have e43:_=_:=hval 2 43 kR rfl;have e44:_=_:=hval 3 44 kR rfl;go_simp;have hvs:=VFB.to_vb hS (fun b _ h=>h);have hvw:=Hv3.out.trans hvs;obtain ⟨v5,hw5⟩:=hvw.1.waveC Hb0.out;have ht5:=Htr.out.2.vis hvw.1;refine (mV gv (G p) S n v5 lv p (aL L lv p) x b w5 hw5 ht5 (zCm Hxl.out)).mono ?_;rintro e w8 ⟨rfl,hv8⟩;rw [Hxy.out];exact hK _ _ (aK (hv8.mono fun b hb=>by rcases hb with rfl | rfl;exact hBg;exact Htr.out.1)) rfl
      refine sC3 (fun ev w5 hS _ _ _ hold _ _ _ _ hK=>?_) ?_
      · replace hS:VFB B (fun _=>False) W3 w5:=fD hS;have e9:ev (.tmp 9)=.pointer (some ⟨wr.heap.size,0,none⟩):=hold 9 kR;have hs5:=hS.1.bk Hsh3.out dC dC (fun h=>h);have s0:w5.cell? ⟨wr.heap.size,0,none⟩=some (.pointer (some ⟨G p,0,none⟩)):=(hs5.cell 0).trans rfl;have s1:w5.cell? ⟨wr.heap.size,1,none⟩=some (.int .i64 (lv:Int)):=(hs5.cell 1).trans rfl;have s2:w5.cell? ⟨wr.heap.size,2,none⟩=some (.int .i64 (p:Int)):=(hs5.cell 2).trans rfl;go_simp;exact hK _ _ (aK vR) rfl
      refine sC3 (fun ev w5 hS _ _ _ hold _ _ _ _ hK=>?_) ?_
      · replace hS:VFB B (fun _=>False) W3 w5:=fD hS;have e10:ev (.tmp 10)=.pointer (some ⟨wr.heap.size+1,0,none⟩):=hold 10 kR;have b5:w5.cell? ⟨wr.heap.size+1,0,none⟩=some (.bool b):=((hS.1.bk Hbt3.out dC dC (fun h=>h)).cell 0).trans rfl;go_simp;exact hK _ _ (aK vR) rfl
      refine sC3 (fun _ w5 _ _ _ _ _ hval _ _ _ hK=>?_) ?_
      · have e46:_=_:=hval 5 46 kR rfl;have e47:_=_:=hval 6 47 kR rfl;go_simp;refine (aDx (G p) lv p b w5 hp512).mono ?_;rintro e w8 ⟨rfl,hb8⟩;rw [<-Hps2.out];exact hK _ _ (aK (VisK.of_below hb8)) rfl
      exact aC
    · intro ev w6 f hS hval hall;replace hS:VFB B (fun _=>False) W3 w6:=fD hS;have e45:ev (.tmp 45)=.int .i64 (y:Int):=hval 4 45 dC rfl;have e48:ev (.tmp 48)=.int .i64 (r:Int):=hval 7 48 dC rfl;obtain ⟨vJ,pJ0⟩:=hall 7 dC;have pJ:(is (r:Int)) vJ w6:=pJ0;clear pJ0 hall;simp only [aI,zq1,zq2,Act.put,zq3,zq4,zq5];rw [e45];rw [e48];clear hval;have hvs:=VFB.to_vb hS (fun b _ h=>h);have hgk6:=hvs.1.bk Hgk3.out dC dC;have c6k:=hgk6.cell 0;have f6k:=hgk6.frozen 0;have hs6:=hvs.1.size;obtain ⟨Hvs,Hgk6⟩:=hqq2 hvs hgk6;clear hvs hgk6 hS pJ;change wpAny Tryz.prog Region.Mode.any _ _ (2+f) (bV 8 10) _ w6;rw [show 2+f=f+1+1 by omega];refine aQ (f:=f+1) (i:=8) kR ?_;refine bW rfl rfl ?_;generalize hK:wpAny Tryz.prog _ _ _ (f+1) _=K5;go_simp;subst hK;refine aQ (f:=f) (i:=9) kR ?_;refine bW rfl rfl ?_;generalize hK:wpAny Tryz.prog _ _ _ f _=K5;go_simp;subst hK;refine bK kR ?_;have hgk7:=Hgk6.out.set 0 (.int .i64 (y:Int));have hv7:=Hv3.out.trans Hvs.out;have hv8:VB B w (w6.setCell ⟨w.heap.size,0,none⟩ (.int .i64 (y:Int))):=⟨Vis.fresh hv7.1 (p:=⟨w.heap.size,0,none⟩) nL _,Keep.setCell (F:=fun b=>B<=b) hv7.2 (p:=⟨w.heap.size,0,none⟩) (.inl hB) _⟩;obtain ⟨Hv8,Hgk7⟩:=hqq2 hv8 hgk7;clear hv7 hv8 hgk7;go_wp2_with fail;go_roundw
      case rel=>exact ⟨lv+1,by omega,by go_num,by rw [Hr.out],Hv8.out,by rw [Hy.out];exact Hgk7.out,Hgk7.out.lt⟩
      case measure=>simp [intOf];omega
  · obtain rfl:lv=9:=oM;rw [P9.out];go_wp2_with fail;go_ret2;exact ⟨rfl,hv⟩
theorem WaveS.cells {w:World} {B:Nat} {own:Nat->Nat} {gv:Nat} {S:Nat->Value} {Ls:Nat->List Nat} {n v:Int} (h:WaveS w B own gv S Ls n v):(∀i,i < 9->w.cell? ⟨gv,i,none⟩=some (S i))/\w.cell? ⟨gv,9,none⟩=some (.int .i64 n)/\w.cell? ⟨gv,10,none⟩=some (.int .i64 v):=by
 obtain ⟨d0,d1,d2,d3,d4,d5,d6,d7,d8,d9,d10⟩:=bI S n v;exact ⟨fun i hi=>(h.blk.cell i).trans (tE S n v i hi),(h.blk.cell 9).trans d9,(h.blk.cell 10).trans d10⟩
end
section
open Go.RowKit Go.Shelf
def mD (w:World) (C:List (Nat×Nat)) (e:Ending) (w':World):Prop:=
 ∃A c,e=.returned (.slice A C.length c)/\Made w' w.heap.size 170 2 A C.length c (bS C)/\Below w.heap.size w w'
end
section
open Go.RowKit
theorem PermAt.vis {w w':World} {B gp ga:Nat} {vl vo vt vf:Value} {R P:Nat} {ks:List Nat} {C:List (Nat×Nat)} {tk:List Bool} {fr:List Nat} (h:PermAt w B gp ga vl vo vt vf R P ks C tk fr) (k:Vis w w'):PermAt w' B gp ga vl vo vt vf R P ks C tk fr:=
 ⟨k.bk h.blk dC dC,k.own h.lrow dC dC,k.own h.orow dC dC,k.bk h.ar dC dC,k.own h.trow dC dC,k.own h.frow dC dC,h.apart,h.lt,h.lo⟩
theorem LiveAt.vis {w w':World} {Bw gl gk gp ga:Nat} {vl vo vt:Value} {B n rate:Nat} {L:List Nat} {C:List (Nat×Nat)} {tk:List Bool} (h:LiveAt w Bw gl gk gp ga vl vo vt B n rate L C tk) (k:Vis w w'):LiveAt w' Bw gl gk gp ga vl vo vt B n rate L C tk:=
 ⟨k.bk h.blk dC dC,h.walk.vis k,h.perm.vis k⟩
theorem aHX (rs:List Nat) (rate n i p:Nat):(i,p)∈cT rs rate n↔i < n/\rs.getD i 0=p/\p % rate=0:=by
 unfold cT;rw [zAy];constructor;rintro ⟨a,ha,e⟩;rw [zCv,zCj] at ha;cases e;exact ⟨ha.1,rfl,by simpa using ha.2⟩;rintro ⟨h1,rfl,h2⟩;exact ⟨i,zCv.2 ⟨zCj.2 h1,by simpa using h2⟩,rfl⟩
theorem aBc (C:List (Nat×Nat)) (h:C.Pairwise (fun a b=>a.1 < b.1)):(List.range C.length).Pairwise (fun a b=>aB C a < aB C b):=by
 rw [zAr];intro i j hi hj hij;rw [zCi] at hi hj;rw [List.getElem_range,List.getElem_range];have:=zAr.1 h i j hi hj hij;unfold aB;rw [zAb,zAb,zAa hi,zAa hj];exact this
theorem aHY (rs:List Nat) (rate n:Nat):(cT rs rate n).length<=n:=by
 unfold cT;rw [zBc];exact zAk (zCu _ _) (by simp)
end
section
abbrev ro (R:List Nat) (p:Nat):Nat:=R.idxOf p
theorem fW {R:List Nat} (hn:R.Nodup) {r p:Nat} (h:R[r]?=some p):ro R p=r:=by
 obtain ⟨hr,e⟩:=zAc.1 h;subst e;exact hn.idxOf_getElem r hr
def tQ (S R:List Nat) (p q:Nat):Prop:=S.getD p 0 < S.getD q 0∨(S.getD p 0=S.getD q 0/\ro R (p+1) < ro R (q+1))
structure Near (S R:List Nat) (N i:Nat):Prop where
 endk:EndOk S N
 perm:R.Perm (List.range (N+1))
 first:∀p q,p<=N->q<=N->ro R p < ro R q->S.getD p 0<=S.getD q 0
 cons:∀p q,p<=N->q<=N->p≠q->p+1≠i->q+1≠i->(ro R p < ro R q↔tQ S R p q)
section
variable {S R : List Nat} {N i : Nat}
theorem Near.nodup (h:Near S R N i):R.Nodup:=h.perm.nodup_iff.2 List.nodup_range
theorem Near.mem (h:Near S R N i) {p:Nat}:p∈R↔p<=N:=by
 rw [h.perm.mem_iff,zCj];omega
theorem Near.len (h:Near S R N i):R.length=N+1:=by simpa using h.perm.length_eq
theorem aCP {S:List Nat} {p q:Nat} (hp:p < S.length) (hq:q < S.length) (he:S.getD p 0=S.getD q 0) (h:sufLt S (p+1) (q+1)):sufLt S p q:=by
 obtain ⟨w,k,h1,h2,h3⟩:=h;refine ⟨w+1,k+1,by omega,fun m hm=>?_,?_⟩
 · cases m with
   | zero=>
     rw [zBq,zBq,eZ hp,eZ hq,he]
   | succ m=>
     have:=h2 m oM;rw [show p+(m+1)=p+1+m by omega,show q+(m+1)=q+1+m by omega];exact this
 rw [show p+(k+1)=p+1+k by omega,show q+(k+1)=q+1+k by omega];exact h3
theorem aFB {S:List Nat} {p q:Nat} (hp:p < S.length) (hq:q < S.length) (he:S.getD p 0 < S.getD q 0):sufLt S p q:=by
 refine ⟨1,0,by omega,fun m hm=>by omega,?_⟩;rw [zBq,zBq,eZ hp,eZ hq];omega
theorem Near.sorted (h:Near S R N 0):IsSuf S R:=by
 obtain ⟨e1,e2,e3⟩:=h.endk;have key:∀d p q,N < p+d->p<=N->q<=N->p≠q->ro R p < ro R q->sufLt S p q:=by
  intro d
  induction d with
  | zero=>intro p q hd hp;omega
  | succ d ih=>
    intro p q hd hp hq hpq hlt;rcases (h.cons p q hp hq hpq oM oM).1 hlt with h1 |⟨h1,h2⟩;exact aFB oM oM h1
    · have hpN:p≠N:=fun e=>by subst e;have:=e3 q oM;omega
      have hqN:q≠N:=fun e=>by subst e;have:=e3 p oM;omega
      exact aCP oM oM h1 (ih (p+1) (q+1) oM oM oM oM h2)
 refine ⟨by rw [e1];exact h.perm,?_⟩;rw [zAr];intro a b ha hb hab;have hn:=h.nodup;have hpa:R[a]<=N:=h.mem.1 (zBj ha);have hpb:R[b]<=N:=h.mem.1 (zBj hb);have ra:ro R R[a]=a:=fW hn (zAa ha);have rb:ro R R[b]=b:=fW hn (zAa hb);exact key (N+1) _ _ oM hpa hpb (fun e=>by rw [e,rb] at ra;omega) (by rw [ra,rb];exact hab)
end
end
section
open Go.RowKit
structure PermX (w:World) (F:Nat->Prop) (gp ga:Nat) (vl vo vt vf:Value) (R P:Nat) (ks:List Nat) (C:List (Nat×Nat)) (tk:List Bool) (fr:List Nat):Prop where
 at_:PermAt w 0 gp ga vl vo vt vf R P ks C tk fr
 fp:F gp
 fa:F ga
 fl:OwnF F vl
 fo:OwnF F vo
 ft:OwnF F vt
 ff:OwnF F vf
 nd:ks.Nodup
 tkl:tk.length=C.length
 tkk:∀k,tk[k]?=some true↔k∈ks
 frn:fr.Nodup
 frk:∀k,k∈fr↔tk[k]?=some false
 sz:C.length<=1000
def PermE (w:World) (F:Nat->Prop) (gp R P:Nat) (pr:List (Nat×Nat)):Prop:=
 (∃ga vl vo vt vf ks C tk fr,PermX w F gp ga vl vo vt vf R P ks C tk fr/\pr=ks.map fun k=>(aB C k,aH C k))/\pr.Pairwise (fun a b=>a.1 < b.1)/\∀x∈pr,x.1 < R/\x.2 < P
theorem PermAt.vis2 {w w':World} {B gp ga:Nat} {vl vo vt vf:Value} {R P:Nat} {ks:List Nat} {C:List (Nat×Nat)} {tk:List Bool} {fr:List Nat} (h:PermAt w B gp ga vl vo vt vf R P ks C tk fr) (k:Vis w w'):PermAt w' B gp ga vl vo vt vf R P ks C tk fr:=
 ⟨k.bk h.blk dC dC,k.own h.lrow dC dC,k.own h.orow dC dC,k.bk h.ar dC dC,k.own h.trow dC dC,k.own h.frow dC dC,h.apart,h.lt,h.lo⟩
section
variable {w w' : World} {F G : Nat -> Prop} {gp R P : Nat} {pr : List (Nat × Nat)}
theorem PermE.vis (h:PermE w F gp R P pr) (k:Vis w w'):PermE w' F gp R P pr:=by
 obtain ⟨⟨ga,vl,vo,vt,vf,ks,C,tk,fr,hx,e⟩,h2,h3⟩:=h;exact ⟨⟨ga,vl,vo,vt,vf,ks,C,tk,fr,⟨hx.at_.vis2 k,hx.fp,hx.fa,hx.fl,hx.fo,hx.ft,hx.ff,hx.nd,hx.tkl,hx.tkk,hx.frn,hx.frk,hx.sz⟩,e⟩,h2,h3⟩
theorem PermE.mono (h:PermE w F gp R P pr) (k:∀b,b < w.heap.size->F b->G b):PermE w G gp R P pr:=by
 obtain ⟨⟨ga,vl,vo,vt,vf,ks,C,tk,fr,hx,e⟩,h2,h3⟩:=h;have a:=hx.at_;exact ⟨⟨ga,vl,vo,vt,vf,ks,C,tk,fr,⟨a,k _ a.blk.lt hx.fp,k _ a.ar.lt hx.fa,fun b hb=>k b (a.lrow.lt b hb).2 (hx.fl b hb),fun b hb=>k b (a.orow.lt b hb).2 (hx.fo b hb),fun b hb=>k b (a.trow.lt b hb).2 (hx.ft b hb),fun b hb=>k b (a.frow.lt b hb).2 (hx.ff b hb),hx.nd,hx.tkl,hx.tkk,hx.frn,hx.frk,hx.sz⟩,e⟩,h2,h3⟩
theorem PermE.keep (h:PermE w F gp R P pr) (k:Keep G w w') (hf:∀b,F b->¬G b):PermE w' F gp R P pr:=by
 obtain ⟨⟨ga,vl,vo,vt,vf,ks,C,tk,fr,hx,e⟩,h2,h3⟩:=h;have a:=hx.at_;refine ⟨⟨ga,vl,vo,vt,vf,ks,C,tk,fr,⟨⟨k.bk a.blk (hf _ hx.fp),aA a.lrow fun b cs hb hk=>k.bk hk (hf _ (hx.fl b hb)),aA a.orow fun b cs hb hk=>k.bk hk (hf _ (hx.fo b hb)),k.bk a.ar (hf _ hx.fa),aA a.trow fun b cs hb hk=>k.bk hk (hf _ (hx.ft b hb)),aA a.frow fun b cs hb hk=>k.bk hk (hf _ (hx.ff b hb)),a.apart,a.lt,a.lo⟩,hx.fp,hx.fa,hx.fl,hx.fo,hx.ft,hx.ff,hx.nd,hx.tkl,hx.tkk,hx.frn,hx.frk,hx.sz⟩,e⟩,h2,h3⟩
theorem PermE.below (h:PermE w F gp R P pr) (k:Below w.heap.size w w'):PermE w' F gp R P pr:=h.keep (G:=fun _=>False) (Keep.of_below k) fun _ _ f=>f
end
theorem iA:∀ {n:Nat} {ks:List Nat},ks.Nodup->(∀k∈ks,k < n)->ks.length<=n
 | 0,ks,_,hl=>by
   cases ks with
   | nil=>exact zAs _
   | cons k ks=>exact absurd (hl k (by simp)) oM
 | n+1,ks,h,hl=>by
   have h1:=iA (n:=n) (h.erase n) fun k hk=>by have h2:=(h.mem_erase_iff).1 hk;have:=hl k h2.2;omega
   by_cases c:n∈ks;have:=List.length_erase_of_mem c;omega;rw [List.erase_of_not_mem c] at h1;omega
end
section
open Go.RowKit Go.Shelf
theorem Bk.shape {w:World} {g:Nat} {t:TypeId} {cs:Array Value} (h:Bk w g t cs):w.shape? g=some (t,cs.size):=by
 unfold Bk at h;unfold World.shape?;rw [h]
def PermR (w:World) (gp R P:Nat) (pr:List (Nat×Nat)):Prop:=
 ∃B ga vl vo vt vf ks C tk fr,PermAt w B gp ga vl vo vt vf R P ks C tk fr/\ks.Pairwise (fun a b=>aB C a < aB C b)/\C.length<=1000/\ks.length<=1000/\pr=ks.map fun k=>(aB C k,aH C k)
theorem PermR.le {w:World} {gp R P:Nat} {pr:List (Nat×Nat)} (h:PermR w gp R P pr):pr.length<=1000:=by
 obtain ⟨B,ga,vl,vo,vt,vf,ks,C,tk,fr,h1,h2,h3,h4,rfl⟩:=h;rw [zBc];exact h4
theorem PermR.vis {w w':World} {gp R P:Nat} {pr:List (Nat×Nat)} (h:PermR w gp R P pr) (k:Vis w w'):PermR w' gp R P pr:=by
 obtain ⟨B,ga,vl,vo,vt,vf,ks,C,tk,fr,h1,h2⟩:=h;exact ⟨B,ga,vl,vo,vt,vf,ks,C,tk,fr,h1.vis k,h2⟩
theorem PermR.lt {w:World} {gp R P:Nat} {pr:List (Nat×Nat)} (h:PermR w gp R P pr):gp < w.heap.size:=by
 obtain ⟨B,ga,vl,vo,vt,vf,ks,C,tk,fr,h1,h2⟩:=h;exact h1.blk.lt
theorem aBZ (B gp ga:Nat) (vl vo vt vf:Value) (R P:Nat) (ks:List Nat) (C:List (Nat×Nat)) (tk:List Bool) (fr:List Nat) (w:World) (h:PermAt w B gp ga vl vo vt vf R P ks C tk fr) (hC:C.length<=1000) (hK:ks.length<=1000):
 Calls Tryz.prog 127 #[gp] w (mD w (ks.map fun k=>(aB C k,aH C k))):=by
 obtain ⟨i0,hi0,hz0,hz1,hz2⟩:=info_parts tM;have ho:=h.orow;obtain ⟨A2,c2,rfl,_,_⟩:=aV ho;obtain ⟨A1,c1,rfl,_,_⟩:=aV h.lrow;have c1':w.cell? ⟨gp,1,none⟩=some (.slice A1 C.length c1):=(h.blk.cell 1).trans rfl;have c2':w.cell? ⟨gp,2,none⟩=some (.slice A2 ks.length c2):=(h.blk.cell 2).trans rfl;have hgp:=h.blk.lt;obtain ⟨N,hN⟩:∃n,C.length=n:=⟨_,rfl⟩;obtain ⟨n,hn⟩:=eqx ks.length;obtain ⟨pr,hpr⟩:∃pr,(ks.map fun k=>(aB C k,aH C k))=pr:=⟨_,rfl⟩;have hprl:pr.length=n:=by rw [<-hpr,zBc,hn]
 rw [hpr];obtain ⟨H,Hn,HN,Hpr,Hprl⟩:=hqq5 h hn hN hpr hprl;rw [hN] at c1' hC;rw [hn] at c2' hK;clear h ho hn hN hpr hprl;unfold mD;go_enter Tryz.func127,Tryz.ntmps127;go_wp2_with fail;go_loopw [3,13] (fun v i wr=>∃k:Nat,k<=n/\i=.int .i64 (k:Int)/\wr.ownsRow w.heap.size 170 2 v k (bS (pr.take k))/\Below w.heap.size w wr) (fun _ i _=>n -(intOf i).toNat)
 case atStart=>exact ⟨0,zAp _,rfl,World.ownsRow_nil _ _ _ _,Below.refl _ _⟩
 case round=>
  obtain ⟨k,hk,rfl,hown,hb⟩:=hrel;have hsz:=hb.size;by_cases hlt:k < n
  · have hkn:k < ks.length:=(by rw [Hn.out];exact hlt);obtain ⟨j,hj⟩:∃j,ks[k]?=some j:=⟨_,zAa hkn⟩;have hjC:j < C.length:=H.out.lt j (zAd hj);have hjN:j < N:=(by rw [<-HN.out];exact hjC);have hp:=H.out.below hb;have ho2:=hp.orow;obtain ⟨g2,k2,e2,_,hg2⟩:=World.ownsRow.form ho2 oM;obtain ⟨g1,k1,e1,_,hg1⟩:=World.ownsRow.form hp.lrow oM;injection e2 with e2a _ _;injection e1 with e1a _ _;subst e2a;subst e1a;have d2:wr.cell? ⟨g2,k,none⟩=some (.int .i64 (j:Int)):=(World.ownsRow.cellAt ho2 k oM).trans (by rw [zAf,hj];rfl);obtain ⟨p0,p1⟩:=cF C j hjC;have d0:wr.cell? ⟨g1,j*2,none⟩=_:=(World.ownsRow.cellAt hp.lrow (j*2) oM).trans p0;have d1:wr.cell? ⟨g1,j*2+1,none⟩=_:=(World.ownsRow.cellAt hp.lrow (j*2+1) oM).trans p1;have d3:wr.cell? ⟨gp,1,none⟩=some (.slice (some ⟨g1,0,none⟩) N c1):=(hb.cell (p:=⟨gp,1,none⟩) hgp).trans c1';obtain ⟨a1,ha1⟩:∃x,aB C j=x:=⟨_,rfl⟩;obtain ⟨a2,ha2⟩:∃x,aH C j=x:=⟨_,rfl⟩;have hnext:bS (pr.take (k+1))=bS (pr.take k)++ [.int .i64 (a1:Int),.int .i64 (a2:Int)]:=(by have hc:pr[k]?=some (a1,a2):=(by rw [<-Hpr.out,zAf,hj,<-ha1,<-ha2];rfl);rw [zAv,hc];show bS (pr.take k++ [(a1,a2)])=_;rw [kU];rfl);rw [ha1] at d0;rw [ha2] at d1;obtain ⟨Hown,Hb,Hnext⟩:=hqq3 hown hb hnext;clear hown hb hnext hp ho2 p0 p1 c1' c2' ha1 ha2 hj hjC hkn;go_wp2_with (at_builtin;refine bP _ rfl (.tmp 17) (.tmp 25) _ rfl w.heap.size 170 i0 (.agg #[.int .i64 0,.int .i64 0]) 2 16 Tryz.underlying109 hi0 hz0 hz1 hz2 rfl dC _ k _ rfl Hown.out rfl rfl (by simp [Value.oneCell']) (by unfold maxLen;omega) oM hsz ?_;intro v5 w5 hown5 hg5 hs5 hat5);have hb5:=aZ Hb.out Hown.out hg5 hsz;have Hb5:=lhd hb5;clear hb5 hg5 hat5;exact ⟨⟨v5,_,_,⟨k+1,by omega,by go_num,by rw [Hnext.out];exact hown5,Hb5.out⟩,rfl,rfl,rfl⟩,by simp [intOf];omega⟩
  · obtain rfl:k=n:=oM;have htk:pr.take k=pr:=zAg (by rw [Hprl.out];exact zAs _);rw [htk] at hown;obtain ⟨A9,c9,rfl,hm9⟩:=aS hown;obtain ⟨Hm9,Hb⟩:=hqq2 hm9 hb;clear hown hm9 hb;go_wp2_with fail;go_ret;exact ⟨A9,c9,by rw [Hprl.out];rfl,by rw [Hprl.out];exact Hm9.out,Hb.out⟩
theorem sT (gp R P:Nat) (pr:List (Nat×Nat)) (w:World) (h:PermR w gp R P pr):
 Calls Tryz.prog 127 #[gp] w (mD w pr):=by
 obtain ⟨B,ga,vl,vo,vt,vf,ks,C,tk,fr,h1,h2,h3,h4,rfl⟩:=h;exact aBZ B gp ga vl vo vt vf R P ks C tk fr w h1 h3 h4
def eE (pr:List (Nat×Nat)) (pos:Nat) (z:Int):Prop:=(z=-1/\∀x∈pr,x.2 < pos)∨∃x∈pr,z=((x.2:Nat):Int)/\pos<=x.2/\∀y∈pr,pos<=y.2->x.2<=y.2
theorem xM {l:List (Nat×Nat)} {pos:Nat} {z:Int} (h:eE l pos z) (a1 a2:Nat):eE (l++(some (a1,a2)).toList) pos (if pos<=a2/\(z < 0∨(a2:Int) < z) then (a2:Int) else z):=by
 have hmem:∀y:Nat×Nat,y∈l++(some (a1,a2)).toList↔y∈l∨y=(a1,a2):=fun y=>by simp
 rcases h with ⟨rfl,h1⟩|⟨x,hx,rfl,h1,h2⟩;by_cases c:pos<=a2;rw [zBx ⟨c,.inl oM⟩];refine .inr ⟨(a1,a2),(hmem _).2 (.inr rfl),rfl,c,fun y hy hp=>?_⟩;rcases (hmem y).1 hy with hy | rfl;have:=h1 y hy;omega;exact zAs _;rw [zBw (fun e=>c e.1)];refine .inl ⟨rfl,fun y hy=>?_⟩;rcases (hmem y).1 hy with hy | rfl;exact h1 y hy;show a2 < pos;omega;by_cases c:pos<=a2/\((x.2:Int) < 0∨(a2:Int) < (x.2:Int));rw [zBx c];have c2:a2 < x.2:=oM;refine .inr ⟨(a1,a2),(hmem _).2 (.inr rfl),rfl,c.1,fun y hy hp=>?_⟩;rcases (hmem y).1 hy with hy | rfl;have:=h2 y hy hp;show a2<=_;omega;exact zAs _;rw [zBw c];refine .inr ⟨x,(hmem _).2 (.inl hx),rfl,h1,fun y hy hp=>?_⟩;rcases (hmem y).1 hy with hy | rfl;exact h2 y hy hp;have hp':pos<=a2:=hp;show x.2<=a2;omega
def tZ (w:World) (C:List (Nat×Nat)) (pos:Nat) (e:Ending) (w':World):Prop:=∃z,e=.returned (.int .i64 z)/\eE C pos z/\Below w.heap.size w w'
theorem pP (gp R P:Nat) (C:List (Nat×Nat)) (pos:Nat) (w:World) (h:PermR w gp R P C):
 Calls Tryz.prog 99 #[gp,(pos:Int)] w (tZ w C pos):=by
 have hall:=sT gp R P C w h;have hC:=h.le;unfold mD at hall;obtain ⟨n,hn⟩:=eqx C.length;rw [hn] at hall hC;have Hn:=lhd hn;clear h hn;unfold tZ;go_enter Tryz.func99,Tryz.ntmps99;go_wp2_with fail;refine hall.mono ?_;rintro e w1 ⟨A,c,rfl,hm,hb1⟩;clear hall;obtain ⟨Hm,Hb1⟩:=hqq2 hm hb1;clear hm hb1;go_wp2_with fail;go_loopw [5,11] (fun v i wr=>∃(k:Nat) (z:Int),k<=n/\i=.int .i64 (k:Int)/\v=.int .i64 z/\eE (C.take k) pos z/\Below w1.heap.size w1 wr) (fun _ i _=>n -(intOf i).toNat)
 case atStart=>exact ⟨0,-1,zAp _,rfl,rfl,.inl ⟨rfl,fun x hx=>by simp at hx⟩,Below.refl _ _⟩
 case round=>
  obtain ⟨k,z,hk,rfl,rfl,hz,hb⟩:=hrel;have hsz:=hb.size;by_cases hlt:k < n
  · have hkC:k < C.length:=(by rw [Hn.out];exact hlt);have hr:=Hm.out.rd.below (hb.mono (B:=w1.heap.size) nL);obtain ⟨b,off,rfl,hbb,hcell⟩:=hr.2 oM;obtain ⟨p0,p1⟩:=cF C k hkC;have d0:=hcell _ _ p0;have d1:=hcell _ _ p1;obtain ⟨a1,ha1⟩:∃x,aB C k=x:=⟨_,rfl⟩;obtain ⟨a2,ha2⟩:∃x,aH C k=x:=⟨_,rfl⟩;rw [ha1] at d0;rw [ha2,<-Nat.add_assoc] at d1;have hcc:C[k]?=some (a1,a2):=(by rw [<-ha1,<-ha2];unfold aB aH;rw [zAb,zAa hkC];rfl);have hnx:∀y:Int,y=(if pos<=a2/\(z < 0∨(a2:Int) < z) then (a2:Int) else z)->eE (C.take (k+1)) pos y:=fun y hy=>by rw [zAv,hcc,hy];exact xM hz a1 a2
    obtain ⟨Hnx,Hb⟩:=hqq2 hnx hb;have hb2:Below w1.heap.size w1 (wr.alloc (.cells #[(a1:Int),(a2:Int)] 170)):=hb.alloc hsz _;have Hb2:=lhd hb2;clear hz hb hr hcell p0 p1 ha1 ha2 hb2 hnx hcc;by_cases h1:pos<=a2
    · have n1:decide (pos<=a2)=true:=zBz h1;by_cases h2:z < 0
      · have hok:eE (C.take (k+1)) pos (a2:Int):=Hnx.out (a2:Int) (by rw [zBx ⟨h1,.inl h2⟩]);have Hok:=lhd hok;clear hok;go_wp2_with fail;go_roundw
        case rel=>exact ⟨k+1,(a2:Int),by omega,by go_num,by first | rfl | trivial,Hok.out,Hb2.out⟩
        case measure=>simp [intOf];omega
      · have n2:decide (z < 0)=false:=zBy h2;by_cases h3:(a2:Int) < z
        · have hok:eE (C.take (k+1)) pos (a2:Int):=Hnx.out (a2:Int) (by rw [zBx ⟨h1,.inr h3⟩]);have Hok:=lhd hok;clear hok;go_wp2_with fail;go_roundw
          case rel=>exact ⟨k+1,(a2:Int),by omega,by go_num,by first | rfl | trivial,Hok.out,Hb2.out⟩
          case measure=>simp [intOf];omega
        · have n3:decide ((a2:Int) < z)=false:=zBy h3;have hok:eE (C.take (k+1)) pos z:=Hnx.out z (by rw [zBw oM]);have Hok:=lhd hok;clear hok;go_wp2_with fail;go_roundw
          case rel=>exact ⟨k+1,z,by omega,by go_num,by first | rfl | trivial,Hok.out,Hb2.out⟩
          case measure=>simp [intOf];omega
    · have n1:decide (pos<=a2)=false:=zBy h1;have hok:eE (C.take (k+1)) pos z:=Hnx.out z (by rw [zBw oM]);have Hok:=lhd hok;clear hok;go_wp2_with fail;go_roundw
      case rel=>exact ⟨k+1,z,by omega,by go_num,by first | rfl | trivial,Hok.out,Hb2.out⟩
      case measure=>simp [intOf];omega
  · obtain rfl:k=n:=oM;have hbW:=Hb1.out.trans (hb.mono Hb1.out.size);have HbW:=lhd hbW;have htk:C.take k=C:=zAg (by rw [Hn.out];exact zAs _);rw [htk] at hz;have Hz:=lhd hz;clear hbW hz hb htk;go_wp2_with fail;go_ret;exact ⟨z,rfl,Hz.out,HbW.out⟩
def aDr (w:World) (ks:List Nat) (C:List (Nat×Nat)) (pos:Nat) (e:Ending) (w':World):Prop:=∃k,k∈ks/\aH C k=pos/\e=.returned (.int .i64 ((aB C k:Nat):Int))/\Below w.heap.size w w'
theorem aBU (B gp ga:Nat) (vl vo vt vf:Value) (R P:Nat) (ks:List Nat) (C:List (Nat×Nat)) (tk:List Bool) (fr:List Nat) (pos:Nat) (w:World) (h:PermAt w B gp ga vl vo vt vf R P ks C tk fr) (hk:ks.length<=1099511627776) (hC:C.length<=1099511627776) (hex:∃k∈ks,aH C k=pos):
 Calls Tryz.prog 100 #[gp,(pos:Int)] w (aDr w ks C pos):=by
 have hhas:=jJ B gp ga vl vo vt vf R P ks C tk fr pos w h hk;obtain ⟨q,x,hq,hx1,hx2⟩:=uK (p:=fun k=>decide (aH C k=pos)) (l:=ks) (by obtain ⟨k,hk1,hk2⟩:=hex;exact ⟨k,hk1,zBz hk2⟩) 0;rw [hq,zBi] at hhas;have hx3:aH C x=pos:=of_decide_eq_true hx2;have hqn:q < ks.length:=(zAc.1 hx1).1;have hxC:x < C.length:=h.lt x (zAd hx1);obtain ⟨g,cap,hvo,hnc,hgl⟩:=World.ownsRow.form h.orow oM;obtain ⟨g2,cap2,hvl,hnc2,hgl2⟩:=World.ownsRow.form h.lrow oM;subst hvo;subst hvl;have hpair:=(cF C x hxC).1;obtain ⟨H,Hx1,Hx3,Hpair⟩:=hqq4 h hx1 hx3 hpair;have hqI:(q:Int) < (ks.length:Int):=oM;have hxI:(x:Int) < (C.length:Int):=oM;have hq0:decide ((q:Int) < 0)=false:=by simp
 clear h hq hx1 hx2 hx3 hpair hex;unfold aDr;go_enter Tryz.func100,Tryz.ntmps100;go_wp2_with fail;refine hhas.mono ?_;rintro e w1 ⟨rfl,hb1⟩;have h1:=H.out.below hb1;have c1:∀d,(w1.drewN d).cell? ⟨gp,1,none⟩=some (.slice (some ⟨g2,0,none⟩) C.length cap2):=fun d=>(h1.blk.cell 1).trans rfl;have c2:∀d,(w1.drewN d).cell? ⟨gp,2,none⟩=some (.slice (some ⟨g,0,none⟩) ks.length cap):=fun d=>(h1.blk.cell 2).trans rfl;have hgp:=h1.blk.lt;have c3:∀d,(w1.drewN d).cell? ⟨g,q,none⟩=some (.int .i64 (x:Int)):=fun d=>(World.ownsRow.cellAt h1.orow q oM).trans (by rw [zAf,Hx1.out];rfl);have c4:∀d,(w1.drewN d).cell? ⟨g2,x*2,none⟩=some (.int .i64 ((aB C x:Nat):Int)):=fun d=>(World.ownsRow.cellAt h1.lrow (x*2) oM).trans Hpair.out;have Hb1:=lhd hb1;have hgl1:=zAl hgl hb1.size;have hgl21:=zAl hgl2 hb1.size;obtain ⟨pp,hpp⟩:=eqx (aB C x);rw [hpp] at c4;have Hpp:=lhd hpp;clear hhas hb1 h1 hpp;go_wp2_with fail;go_quiet (fail);go_wp2_with fail;go_ret;exact ⟨x,zAd Hx1.out,Hx3.out,by rw [Hpp.out];rfl,below_drewN Hb1.out _⟩
def zB (w:World) (pr:List (Nat×Nat)) (pos:Nat) (e:Ending) (w':World):Prop:=∃r,(r,pos)∈pr/\e=.returned (.int .i64 (r:Int))/\Below w.heap.size w w'
theorem sQ (gp R P:Nat) (pr:List (Nat×Nat)) (pos:Nat) (w:World) (h:PermR w gp R P pr) (hex:∃x∈pr,x.2=pos):
 Calls Tryz.prog 100 #[gp,(pos:Int)] w (zB w pr pos):=by
 obtain ⟨B,ga,vl,vo,vt,vf,ks,C,tk,fr,h1,h2,h3,h4,rfl⟩:=h;have hex':∃k∈ks,aH C k=pos:=by obtain ⟨x,hx,e⟩:=hex;obtain ⟨k,hk,rfl⟩:=zAy.1 hx;exact ⟨k,hk,e⟩
 have hr:=aBU B gp ga vl vo vt vf R P ks C tk fr pos w h1 oM oM hex';refine hr.mono ?_;rintro e w' ⟨k,hk,hp,rfl,hb⟩;exact ⟨_,zAy.2 ⟨k,hk,by rw [hp]⟩,rfl,hb⟩
end
end Go.Proofs.YthldmddkfbijhaaGreatDoor
