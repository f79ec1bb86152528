/- Lemmas of the walk. Conditions: each its own. -/
import Derived.Test.YtihaijbgmjdhgaaGreatDoorPp8
import Derived.Test.YtihaijbgmjdhgaaGreatDoorProg
import Derived.Test.YtihaijbgmjdhgaaGreatDoorShl
set_option linter.all false
set_option maxRecDepth 100000
set_option maxHeartbeats 4000000
open Go.Proofs.Tryz
namespace Go.Proofs.YtihaijbgmjdhgaaGreatDoor
section
open Go.RowKit
def aU (b:List Nat) (a c:Nat):List Bool:=(b.filter fun e=>bH e a==c).map (iH · a)
theorem mJ (b a:Nat) (g:a < 9):bH b (a+1)=2*bH b a+(if iH b a then 1 else 0):=by
 unfold bH iH;have e:9 -(a+1)=8 - a:=oM;have f:9 - a=(8 - a)+1:=oM;rw [e,f,Nat.pow_succ,<-Nat.div_div_eq_div_mul];generalize b / 2 ^(8 - a)=q;by_cases c:q % 2=1;simp [c];omega;simp [c];omega
theorem mI (a:Nat) (b:a < 257):bH a 0=0:=by
 unfold bH;exact Nat.div_eq_of_lt oM
theorem mK (a:Nat):bH a 9=a:=by
 unfold bH;simp
theorem nR (b a:Nat) (c:b < 257) (e:a<=9):bH b a < 2 ^ a:=by
 unfold bH;rw [Nat.div_lt_iff_lt_mul (Nat.pos_of_ne_zero (by simp)),<-Nat.pow_add,show a+(9 - a)=9 by omega];omega
theorem yB (f:List Nat) (a b:Nat) (k:a < 9):(aU f a (bH b a)).count (iH b a)=f.countP (fun p=>bH p (a+1)==bH b (a+1)):=by
 induction f with
 | nil=>rfl
 | cons c l o=>
   have g:=mJ c a k;have i:=mJ b a k;unfold aU at o⊢;rw [zBl,<-o,List.filter_cons];by_cases e:bH c a=bH b a
   · rw [zBv (by simp [e]),List.map_cons,List.count_cons];by_cases j:iH c a=iH b a
     · have:bH c (a+1)=bH b (a+1):=(by rw [g,i,e,j]);simp [j,this]
     · have:bH c (a+1)≠bH b (a+1):=(by rw [g,i,e];cases q:iH c a <;> cases r:iH b a <;> simp_all);simp [j,this]
   · rw [zBu (by simp [e])];have:bH c (a+1)≠bH b (a+1):=(by rw [g,i];cases iH c a <;> cases iH b a <;> simp <;> omega);simp [this]
theorem aAI (e:List Nat) (b c a:Nat):(aU e b c).take ((e.take a).countP fun k=>bH k b==c)=aU (e.take a) b c:=by
 induction e generalizing a with
 | nil=>simp [aU]
 | cons g l j=>
   rcases a with _ | a
   · simp [aU]
   · have:=j a;unfold aU at this⊢;rw [List.take_succ_cons,zBl,List.filter_cons,List.filter_cons];by_cases f:bH g b=c
     · simp only [f,beq_self_eq_true,if_true,List.map_cons,List.take_succ_cons,this]
     · have i:(bH g b==c)=false:=(by simp [f]);simp only [i,Bool.false_eq_true,if_false,zBo,this]
theorem pA (a:List Nat) (b c:Nat):(aU a b c).length=a.countP fun e=>bH e b==c:=by
 unfold aU;rw [zBb,List.countP_eq_length_filter]
def iM (b:List Nat) (c f a:Nat):Nat:=(b.take c).countP fun e=>bH e a==bH f a
theorem rH (a:List Nat) (b e:Nat) (j:b<=a.length) (f:∀c∈a,c < 257) (g:e < 257):iM a b e 0=b:=by
 unfold iM;rw [List.countP_eq_length.2 (fun c i=>by
  have:=f c (List.mem_of_mem_take i);simp [mI _ this,mI _ g]),zAj]
 omega
theorem rI (c:List Nat) (e b a:Nat) (f:a < 9):((aU c a (bH b a)).take (iM c e b a)).count (iH b a)=iM c e b (a+1):=by
 unfold iM;rw [aAI,yB _ _ _ f]
theorem aDa (a:List Nat) (c e b:Nat):iM a c e b<=(aU a b (bH e b)).length:=by
 unfold iM;rw [pA];exact (List.take_sublist c a).countP_le
theorem aAK (a:List Nat) (b c:Nat):iM a b c 9=(a.take b).count c:=by
 unfold iM;rw [List.count_eq_countP];congr 1;funext s;rw [mK,mK]
def cQ (b:Nat->Nat) (c m:Nat):List Value:=(List.range m).flatMap fun a=> [.pointer (some ⟨b a,0,none⟩),.int .i64 (c:Int),.int .i64 (a:Int)]
theorem eV (a:Nat->Nat) (b m:Nat):cQ a b (m+1)=cQ a b m++ [.pointer (some ⟨a m,0,none⟩),.int .i64 (b:Int),.int .i64 (m:Int)]:=by
 unfold cQ;rw [List.range_succ,List.flatMap_append];simp
theorem oH (a:Nat->Nat) (c m:Nat):(cQ a c m).length=m*3:=by
 induction m with
 | zero=>rfl
 | succ m b=>rw [eV,zAi,b];simp;omega
theorem gX (b:Nat->Nat) (c m a:Nat) (o:a < m):(cQ b c m)[a*3]?=some (.pointer (some ⟨b a,0,none⟩))/\(cQ b c m)[a*3+1]?=some (.int .i64 (c:Int))/\(cQ b c m)[a*3+2]?=some (.int .i64 (a:Int)):=by
 induction m with
 | zero=>omega
 | succ m k=>
   rw [eV];by_cases f:a=m;subst f;have e:=oH b c a;refine ⟨?_,?_,?_⟩;rw [zAo oM,e,Nat.sub_self];rfl;rw [zAo oM,e,show a*3+1 - a*3=1 by omega];rfl;rw [zAo oM,e,show a*3+2 - a*3=2 by omega];rfl;have e:=oH b c m;obtain ⟨g,i,j⟩:=k oM;refine ⟨?_,?_,?_⟩;rw [zAn oM];exact g;rw [zAn oM];exact i;rw [zAn oM];exact j
theorem sA (b c:Nat->Nat) (f m:Nat) (e:∀a,a < m->b a=c a):cQ b f m=cQ c f m:=by
 induction m with
 | zero=>rfl
 | succ m g=>rw [eV,eV,g (fun a i=>e a oM),e m oM]
def ShelfRow (f:World) (c:Nat) (i:Value) (g:List Nat) (e m:Nat):Prop:=
 ∃(b:Nat->Nat),f.ownsRow c 232 3 i m (cQ b e m)/\∀a,a < m->c<=b a/\TreeAt f (b a) (aU g e a)
theorem ShelfRow.vis {k w':World} {a:Nat} {j:Value} {b:List Nat} {g m:Nat} (p:ShelfRow k a j b g m) (f:Vis k w'):ShelfRow w' a j b g m:=by
 obtain ⟨o,q,c⟩:=p;exact ⟨o,f.own q dC dC,fun i e=>⟨(c i e).1,(c i e).2.vis f⟩⟩
theorem ShelfRow.below {a w':World} {b:Nat} {f:Value} {c:List Nat} {e m:Nat} (g:ShelfRow a b f c e m) (i:Below a.heap.size a w'):ShelfRow w' b f c e m:=g.vis (Vis.of_below i)
def WaveAt (g:World) (b f:Nat) (c:List Nat):Prop:=
 b<=f/\∃(e:Nat->Value) (i:Int),Bk g f 229 (wcells e (c.length:Int) i)/\∀a,a < 9->ShelfRow g b (e a) c a (2 ^ a)
theorem WaveAt.vis {f w':World} {a c:Nat} {b:List Nat} (i:WaveAt f a c b) (e:Vis f w'):WaveAt w' a c b:=by
 obtain ⟨j,g,t,k,o⟩:=i;obtain ⟨s,p⟩:=e.waveC k;exact ⟨j,g,s,p,fun r q=>(o r q).vis e⟩
theorem WaveAt.below {a w':World} {b e:Nat} {c:List Nat} (f:WaveAt a b e c) (g:Below a.heap.size a w'):WaveAt w' b e c:=f.vis (Vis.of_below g)
abbrev VB (a:Nat):World->World->Prop:=VisK (fun b=>a<=b)
theorem bD {b:Nat} {c w':World} (a:VB b c.drew w'):VB b c w':=⟨⟨a.1.os,a.1.tape,a.1.output,a.1.size,a.1.block⟩,⟨a.2.os,a.2.tape,a.2.output,a.2.size,a.2.block⟩⟩
theorem VB.to_below {B:Nat} {a w':World} (c:VB B a w') (e:B<=a.heap.size):Below B a w':=c.2.to_below e (fun f g b=>by have:=b;omega)
theorem VB.set_wave {c:World} {b a:Nat} {i:Array Value} (j:Bk c a 229 i) (k:b<=a) (e:Int):VB b c (c.setCell ⟨a,10,none⟩ (.int .i64 e)):=⟨Vis.set_wave j e,Keep.setCell (F:=fun g=>b<=g) (Keep.refl _ _) (p:=⟨a,10,none⟩) (.inl k) _⟩
@[irreducible] def rowC (f:Nat->Value) (m:Nat):Array Value:=Array.ofFn (n:=m) fun o=>f o.val
theorem jH (a:Nat->Value) (m:Nat):(rowC a m).size=m:=by unfold rowC;simp
theorem iO (b:Nat->Value) (m a:Nat) (c:a < m):(rowC b m)[a]?=some (b a):=by
 unfold rowC;rw [Array.getElem?_ofFn,dif_pos c]
theorem aBC (f:Nat->Value) (m c:Nat) (i:c < m) (g:Value):(rowC f m).setIfInBounds c g=rowC (fun b=>if b=c then g else f b) m:=by
 apply Array.ext_getElem?;intro b;rcases zBd b m with a | a
 · rw [iO _ _ _ a];by_cases e:c=b
   · subst e;rw [Array.getElem?_setIfInBounds_self_of_lt (by rw [jH];exact i),zBv rfl]
   · rw [zCc e,iO _ _ _ a,zBu (fun j=>e j.symm)]
 · rw [Array.getElem?_eq_none (by simp [jH];exact a),Array.getElem?_eq_none (by rw [jH];exact a)]
theorem wR (b:Value) (m:Nat):rowC (fun _=>b) m=Array.replicate m b:=by
 apply Array.ext_getElem?;intro c;rcases zBd c m with a | a
 · rw [iO _ _ _ a];simp [a]
 · rw [Array.getElem?_eq_none (by rw [jH];exact a),Array.getElem?_eq_none (by simpa using a)]
structure Bits (w:World) (B gB m:Nat) (T:Nat->Value) (R:Nat->List Bool):Prop where
 blk:Bk w gB 144 (rowC T m)
 own:∀p,p < m->w.ownsRow B 4 1 (T p) (R p).length ((R p).map Value.bool)
 apart:∀p q,p < m->q < m->p≠q->∀b,(T p).ownBlock=some b->(T q).ownBlock≠some b
theorem Bits.same {e w':World} {f i m:Nat} {g:Nat->Value} {R:Nat->List Bool} (c:Bits e f i m g R) (o:∀a b,Bk e a 144 b->Bk w' a 144 b) (p:∀a b,Bk e a 4 b->Bk w' a 4 b):Bits w' f i m g R:=
 ⟨o _ _ c.blk,fun q k=>aB (c.own q k) fun a b _ j=>p a b j,c.apart⟩
theorem Bits.below {b w':World} {c f m:Nat} {e:Nat->Value} {R:Nat->List Bool} (k:Bits b c f m e R) (g:Below b.heap.size b w'):Bits w' c f m e R:=k.same (fun i j a=>a.below g a.lt) (fun i j a=>a.below g a.lt)
theorem Bits.start (b:World) (c a m:Nat) (e:Bk b a 144 (rowC (fun _=>.slice none 0 0) m)):Bits b c a m (fun _=>.slice none 0 0) (fun _=> []):=
 ⟨e,fun g j=>World.ownsRow_nil _ _ _ _,fun g k _ _ _ i f=>by simp [Value.ownBlock] at f⟩
theorem Bits.push {w w1:World} {x r m a:Nat} {j:Nat->Value} {R:Nat->List Bool} {v:Value} {b:Bool} (k:Bits w x r m j R) (u:a < m) (J:Keep (fun b=>(j a).ownBlock=some b) w w1)
 (M:w1.ownsRow x 4 1 v ((R a).length+1) ((R a).map Value.bool++ [.bool b])) (A:v.ownBlock=(j a).ownBlock∨∃f,v.ownBlock=some f/\w.heap.size<=f):
 Bits (w1.setCell ⟨r,a,none⟩ v) x r m (fun t=>if t=a then v else j t) (fun t=>if t=a then R a++ [b] else R t):=by
 have L:(j a).ownBlock≠some r:=by intro e;exact aK (k.own a u) k.blk dC e.symm
 have E:=J.bk k.blk L;have G:∀f q,Bk w1 f 4 q->Bk (w1.setCell ⟨r,a,none⟩ v) f 4 q:=fun f q o=>o.far (Bk.ne o E dC) _;refine ⟨?_,fun c i=>?_,fun c C i F B y s=>?_⟩;rw [<-aBC j m a u v];exact E.set a v;by_cases e:c=a;subst e;rw [zBv rfl,zBv rfl,zAi,zAy];exact aB M fun f q _ o=>G f q o;rw [zBu e,zBu e];refine aB (k.own c i) fun f q o K=>G f q (J.bk K ?_);exact fun g=>k.apart c a i u e f o g;have O:∀c,c < m->∀g,(j c).ownBlock=some g->g < w.heap.size:=fun c i g p=>((k.own c i).lt g p).2;have H:∀c,c < m->c≠a->∀g,v.ownBlock=some g->(j c).ownBlock≠some g:=(by intro c i N g p I;rcases A with A |⟨f,o,P⟩;rw [A] at p;exact k.apart a c u i (fun e=>N e.symm) g p I;rw [o] at p;cases p;have:=O c i _ I;omega);by_cases z:c=a;subst z;rw [zBv rfl] at s;rw [zBu (fun e=>B e.symm)];exact H C F (fun e=>B e.symm) y s;rw [zBu z] at s;by_cases D:C=a;subst D;rw [zBv rfl];intro p;exact H c i z y p s;rw [zBu D];exact k.apart c C i F B y s
theorem aAJ (e:List Nat) (c a b:Nat):aU (e++ [c]) a b=if b=bH c a then aU e a b++ [iH c a] else aU e a b:=by
 unfold aU;rw [List.filter_append,zAy];by_cases f:b=bH c a
 · rw [zBv f];simp [f]
 · rw [zBu f];have:(bH c a==b)=false:=(by simp;omega);simp [this]
theorem Bits.congr {i:World} {c f m:Nat} {e:Nat->Value} {R R':Nat->List Bool} (b:Bits i c f m e R) (j:∀a,a < m->R a=R' a):Bits i c f m e R':=
 ⟨b.blk,fun a g=>by rw [<-j a g];exact b.own a g,b.apart⟩
theorem jZ {f:World} {g:Nat} {a:TypeId} {r n b:Nat} {e:Value} {s:List Value} (p:f.ownsRow g a r e n s) (c:e.ownBlock=some b):∃i,Bk f b a i:=by
 rcases p.2 with ⟨rfl,_⟩|⟨o,t,j,rfl,_,q,_⟩
 · simp [Value.ownBlock] at c
 have k:o=b:=(by simpa [Value.ownBlock] using c);subst k;exact ⟨j,q⟩
theorem TreeAt.keepT {c w':World} {e:Nat->Prop} {i:Nat} {f:List Bool} (p:TreeAt c i f) (u:Keep e c w') (s:∀a,e a->∃b g,Bk c a b g/\(b=229∨b=232)):TreeAt w' i f:=by
 refine p.same fun a b g k j=>u.bk j fun q=>?_;obtain ⟨w,v,r,t⟩:=s a q;have o:=(bL j r).1;subst o;rcases t with rfl | rfl;exact absurd k dC;exact absurd k dC
theorem ShelfRow.keepW {g w':World} {b i:Nat} {c:Array Value} {u:Value} {j:List Nat} {s m:Nat} (w:ShelfRow g i u j s m) (r:Keep (fun a=>a=b) g w') (q:Bk g b 229 c):ShelfRow w' i u j s m:=by
 obtain ⟨v,x,k⟩:=w;refine ⟨v,aB x fun a c _ o=>r.bk o fun e=>?_,fun t p=>⟨(k t p).1,(k t p).2.keepT r fun a e=>by
  have f:a=b:=e;subst f;exact ⟨_,c,q,.inl rfl⟩⟩⟩
 have f:a=b:=e;subst f;exact absurd (bL o q).1 dC
theorem ShelfRow.mono {j:World} {B B':Nat} {i:Value} {a:List Nat} {f m:Nat} (o:ShelfRow j B i a f m) (c:B'<=B):ShelfRow j B' i a f m:=by
 obtain ⟨k,p,b⟩:=o;exact ⟨k,aZ p c,fun g e=>⟨zAk c (b g e).1,(b g e).2⟩⟩
end
section
open Go.RowKit Go
open Go.Sort (SortedIn PermIn SWO Holds)
theorem iN (n:Nat) (j:n<=1000000) (a:World):(Instr.makeSlice 39 (.int .i64 (n:Int)) (.int .i64 (n:Int))).run prog a=.ok (.slice (some a.heap.size) n n) (a.alloc (.cells (Array.replicate n (.int .i64 0)) 3)):=by
 obtain ⟨i,c,e,f,g⟩:=info_parts gQ;have:=run_make (P:=prog) a 39 3 i (.int .i64 0) underlying39 c e .i64 .i64 n n oM (Int.le_refl _) (by rw [g];omega) oM;rw [this,f];have b:madeCells #[.int .i64 0] n=Array.replicate n (.int .i64 0):=by apply Array.ext';rw [toList_madeCells_one];simp
 simp only [Value.cells,zBp,zBk];rw [b]
def eX (n b:Nat):Array Value:=((List.range n).map fun a=>Value.int .i64 (((if a < b then a else 0:Nat)):Int)).toArray
theorem oW (n a:Nat):(eX n a).size=n:=by simp [eX]
theorem xO (n:Nat):eX n 0=Array.replicate n (.int .i64 0):=by
 apply Array.ext
 · simp [eX]
 · intro c a b;simp [eX]
theorem xP (n a:Nat) (g:a < n):(eX n a).setIfInBounds a (.int .i64 (a:Int))=eX n (a+1):=by
 apply Array.ext
 · simp [eX]
 · intro e i f;rw [Array.getElem_setIfInBounds (by simpa [eX] using f)];by_cases b:a=e
   · subst b;simp [eX]
   · rw [zBu b];simp only [eX,List.getElem_toArray,List.getElem_map,List.getElem_range];by_cases c:e < a
     · rw [zBv c,zBv oM]
     · rw [zBu c,zBu oM]
theorem aAz (m:Nat):eX (m+1) (m+1)=(oN m).map (eK m):=by
 apply Array.ext
 · simp [eX,oN]
 · intro c a e;have b:c < m+1:=(by simpa [eX] using a);simp [eX,oN,eK,b]
theorem zA {e:World} {b:Nat} {c:TypeId} {a:Array Value} {n B:Nat} (j:Bk e b c a) (k:B<=b) (i:a.size=n) (f:n<=maxLen):Made e B c 1 (some ⟨b,0,none⟩) n n a.toList:=by
 have g:e.ownsRow B c 1 (.slice (some b) n n) n a.toList:=⟨by simp [i],.inr ⟨b,n,a,rfl,k,j,zAs _,f,by omega,by rw [zAg (by simp [i])]⟩⟩;exact ⟨g,Rd.of_own g,zAs _,f⟩
theorem aCJ {m:Nat} (d:Array (Fin (m+1))):(d.map (eK m)).toList=(d.toList.map (·.val)).map sv:=by
 simp [eK,sv]
theorem qW {f:Array Value} {c e:Nat->Nat} {b g:Nat} (j:∀a,a < b->f[c a]?=some (.int .i64 ((e a:Nat):Int))) (o:c b < f.size) (k:∀a,a < b->c a≠c b) (p:e b=g) (a:Nat) (r:a < b+1):(f.setIfInBounds (c b) (.int .i64 (g:Int)))[c a]?=some (.int .i64 ((e a:Nat):Int)):=by
 by_cases i:a=b
 · subst i;rw [zCb,zBv rfl,zBv o,p]
 rw [zCb,zBu (fun q=>k a oM q.symm)];exact j a oM
structure RInv (B0:Nat) (w0:World) (m n:Nat) (l:List Nat) (gn gr gx:Nat) (wr:World) (gw g6 g7 c6 c7 wd:Nat) (d:Array (Fin (m+1))) (R:List Nat):Prop where
 wide:Bk wr gw 3 #[(wd:Int)]
 len:Bk wr gn 3 #[(n:Int)]
 box:Bk wr gr 39 #[.slice (some g6) n c6]
 rank:∃cs:Array Value,Bk wr g6 3 cs/\n<=cs.size/\∀(j:Nat) u,(R.map sv)[j]?=some u->cs[j]?=some u
 next:∃cs:Array Value,Bk wr g7 3 cs/\n<=cs.size
 rows:Bk wr gx 3 (d.map (eK m))
 ok:RowsOk m d
 ap:gx≠gw/\gx≠gn/\gx≠g6/\gx≠g7/\g7≠gw/\g7≠gn/\g7≠g6/\g6≠gw/\g6≠gn
 lo:B0<=gx/\B0<=g6/\B0<=g7/\B0<=gr
 cap:n<=c6/\n<=c7
 rlen:R.length=n
 rle:∀r∈R,r<=1000
 rk:RankOk (aN l) (aN R) wd
 wd1:1<=wd
 wdn:wd<=n
 below:Below B0 w0 wr
structure SetT (B:Nat) (T:TypeId) (w w':World):Prop where
 below:Below B w w'
 other:∀b t cs,t≠T->Bk w b t cs->Bk w' b t cs
 one:∀b c,Bk w b T #[c]->∃c',Bk w' b T #[c']
theorem SetT.set {g:Nat} {i:TypeId} {f:World} {a:Nat} {k:Value} (q:Bk f a i #[k]) (r:g<=a) (e:Value):SetT g i f (f.setCell a e):=by
 refine ⟨bR.setCell r _,fun j u t s b=>?_,fun j o b=>?_⟩;exact b.far (fun c=>s (by subst c;exact (bL b q).1)) _;by_cases c:j=a;subst c;exact ⟨e,b.set 0 e⟩;exact ⟨o,b.far (p:=a) c _⟩
section
variable {B0 : Nat} {w0 : World} {m n : Nat} {l : List Nat} {gn gr gx : Nat} {wr w' : World} {gw g6 g7 c6 c7 wd : Nat} {d d' : Array (Fin (m + 1))} {R : List Nat}
theorem uN {f:World} {e n:Nat} {R:List Nat} (k:R.length=n) (i:∃a:Array Value,Bk f e 3 a/\n<=a.size/\∀(b:Nat) c,(R.map sv)[b]?=some c->a[b]?=some c):Rd f f.heap.size 1 (some ⟨e,0,none⟩) n (R.map sv):=by
 obtain ⟨a,g,p,j⟩:=i;refine ⟨by simp [k],fun _=>⟨e,0,rfl,g.lt,fun b c o=>?_⟩⟩;rw [zBh,g.cell];exact j b c o
theorem RInv.ordk (a:RInv B0 w0 m n l gn gr gx wr gw g6 g7 c6 c7 wd d R) (b:Keep (fun g=>g=gx) wr w'):OrdAt w' gw gn gr wd n (some ⟨g6,0,none⟩) c6 R:=by
 obtain ⟨c,e,f,p,q,r,s,t,u⟩:=a.ap;obtain ⟨i,j,k,o⟩:=a.rank;exact ⟨((b.bk a.wide c.symm).cell 0).trans rfl,((b.bk a.len e.symm).cell 0).trans rfl,((b.bk a.box (Bk.ne a.box a.rows dC)).cell 0).trans rfl,uN a.rlen ⟨i,b.bk j f.symm,k,o⟩⟩
theorem RInv.keepx (a:RInv B0 w0 m n l gn gr gx wr gw g6 g7 c6 c7 wd d R) (b:Keep (fun c=>c=gx) wr w') (u:Bk w' gx 3 (d'.map (eK m))) (t:RowsOk m d'):RInv B0 w0 m n l gn gr gx w' gw g6 g7 c6 c7 wd d' R:=by
 obtain ⟨e,f,g,i,v,w,x,y,z⟩:=a.ap;obtain ⟨j,o,p,q⟩:=a.rank;obtain ⟨k,r,s⟩:=a.next
 exact ⟨b.bk a.wide e.symm,b.bk a.len f.symm,b.bk a.box (Bk.ne a.box a.rows dC),⟨j,b.bk o g.symm,p,q⟩,⟨k,b.bk r i.symm,s⟩,u,t,a.ap,a.lo,a.cap,a.rlen,a.rle,a.rk,a.wd1,a.wdn,
  a.below.trans (b.to_below (by have:=a.lo.1;have:=a.rows.lt;omega) (fun c B A=>by have:=a.lo.1;omega))⟩
theorem RInv.keep7 (a:RInv B0 w0 m n l gn gr gx wr gw g6 g7 c6 c7 wd d R) (b:Keep (fun e=>e=g7) wr w') (r:∃c:Array Value,Bk w' g7 3 c/\n<=c.size):RInv B0 w0 m n l gn gr gx w' gw g6 g7 c6 c7 wd d R:=by
 obtain ⟨s,t,u,f,g,i,j,v,w⟩:=a.ap;obtain ⟨c,k,o,p⟩:=a.rank;obtain ⟨x,q,z⟩:=a.next
 exact ⟨b.bk a.wide g.symm,b.bk a.len i.symm,b.bk a.box (Bk.ne a.box q dC),⟨c,b.bk k j.symm,o,p⟩,r,b.bk a.rows f,a.ok,a.ap,a.lo,a.cap,a.rlen,a.rle,a.rk,a.wd1,a.wdn,
  a.below.trans (b.to_below (by have:=a.lo.1;have:=a.rows.lt;omega) (fun e A y=>by have:=a.lo.2.2.1;omega))⟩
theorem RInv.grow (a:RInv B0 w0 m n l gn gr gx wr gw g6 g7 c6 c7 wd d R) (c:Below wr.heap.size wr w'):RInv B0 w0 m n l gn gr gx w' gw g6 g7 c6 c7 wd d R:=
 a.keep7 (Keep.of_below c) (by
  obtain ⟨e,b,f⟩:=a.next;exact ⟨e,b.below c b.lt,f⟩)
end
theorem jA (G:Option Addr) (m k cf:Nat) (K:List UInt8) (B:World) (a3:Rd B cf 1 G m (K.map bv)) (e6:cf<=B.heap.size) (fe:m<=200):
 Calls prog 62 #[.slice G m k] B fun q w'=>∃dE ar a8,IsSuf (aJ K) dE/\q=.returned (.slice ar (m+1) a8)/\Made w' B.heap.size 3 1 ar (m+1) a8 (dE.map sv)/\Below B.heap.size B w':=by
 have dr:K.length=m:=by simpa using a3.1
 obtain ⟨dK,cB⟩:=hqq2 a3 dr;clear a3 dr;go_enter func62,ntmps62;go_wp2_with fail;obtain ⟨n,bV⟩:=eqx (m+1);have c1:=pF B.heap.size 0 G m k B.heap.size K (B.alloc (.cells #[.slice G m k] 22)) (Bk.new _ _ _) ((dK.out.mono e6).alloc nL _) (by simp) oM;rw [bV] at c1;have fg:n<=201:=oM;have ef:1<=n:=oM;have u:=lhd bV;clear bV;refine c1.mono ?_;clear c1;rintro q w1 ⟨bh,bB,rfl,di,d2⟩;have d3:=((Below.refl B.heap.size B).alloc nL _).trans (d2.mono (by simp));obtain ⟨cv,aF⟩:=hqq2 di d3;clear di d2 d3;go_wp2_with fail;obtain ⟨gn,b0⟩:=eqx w1.heap.size;have az:Bk (w1.alloc (.cells #[(n:Int)] 3)) gn 3 #[(n:Int)]:=b0 ▸ Bk.new _ _ _;have b6:=cv.out.below (bR.alloc nL (.cells #[(n:Int)] 3));have bH:=aF.out.alloc aF.out.size (.cells #[(n:Int)] 3);have bG:=b6.rd;have eW:B.heap.size<=gn:=b0 ▸ aF.out.size;rw [b0];generalize w1.alloc (.cells #[(n:Int)] 3)=W0 at az b6 bH bG⊢;clear cv aF b0;have d7:=az.cell 0;have dv:=az.lt;have bq:Hid (W0.cell? gn=some (.int .i64 (n:Int))):=lhd d7;obtain ⟨br,cl,dH,aE,bm⟩:=hqq5 dv bG b6 bH az;clear d7 dv bG b6 bH az;refine wp_region_any kR ?_;refine nZ [18,19,20,21,22,23,6,5,7] [6,19,21,23] 8 (SetT W0.heap.size 39) (Below W0.heap.size W0) [k0 (is (n:Int)),k0 (fun e s=>∃b,e=.slice (some ⟨b,0,none⟩) n n/\W0.heap.size<=b/\Bk s b 3 (Array.replicate n (.int .i64 0))),k0 (is (.slice bh n bB)),k0 (fun e s=>∃G k,e=.slice G n k/\Made s W0.heap.size 3 1 G n k ((aJ K).map sv)),k0 (is (n:Int)),k0 (fun e s=>∃b,e=.slice (some ⟨b,0,none⟩) n n/\W0.heap.size<=b/\Bk s b 3 (Array.replicate n (.int .i64 0))),k0 (fun e s=>∃b k,e=.pointer (some ⟨b,0,none⟩)/\W0.heap.size<=b/\Bk s b 39 #[k]),kEq 19,kLk 6 21 (fun a4 e s=>∃b,a4=.pointer (some ⟨b,0,none⟩)/\W0.heap.size<=b/\Bk s b 39 #[e]),kEq 23] _ _ rfl kR kR (bR.drew) (pB rfl) (fun B w' H a=>a.elim (fun a=>H.trans (a.mono H.size)) (fun a=>H.trans a.below)) (by repeat' (first | exact xV _ | exact zD _ | exact aC4 _ _ _ |(refine zAe.2 ⟨?_,?_⟩)|(intro F Q;cases Q))) (by repeat' (first | exact nP _ _ | exact tZ _ | exact kS _ _ | exact fG (fun _ _ _ ⟨b,y,r,z⟩ a=>⟨b,y,r,z.below a z.lt⟩)| exact fG (fun _ _ _ ⟨G,k,y,r⟩ a=>⟨G,k,y,r.below a⟩)| exact fG (fun _ _ _ ⟨b,k,y,r,z⟩ a=>⟨b,k,y,r,z.below a z.lt⟩)| exact fG (fun _ _ _ _ ⟨b,y,r,z⟩ a=>⟨b,y,r,z.below a z.lt⟩)| exact kQ (fun _ _ _ ⟨b,y,r,z⟩ a=>⟨b,y,r,z.below a z.lt⟩)| exact kQ (fun _ _ _ ⟨G,k,y,r⟩ a=>⟨G,k,y,r.below a⟩)| exact kQ (fun _ _ _ ⟨b,k,y,r,z⟩ a=>⟨b,k,y,r,z.below a z.lt⟩)| exact kQ (fun _ _ _ _ ⟨b,y,r,z⟩ a=>⟨b,y,r,z.below a z.lt⟩)|(refine zAe.2 ⟨?_,?_⟩)|(intro F Q;cases Q))) (by simp only [List.eraseIdx_cons_zero,List.eraseIdx_cons_succ,List.eraseIdx_nil];repeat' (first | exact nP _ _ | exact tZ _ | exact kS _ _ | exact fG (fun _ _ _ ⟨b,y,r,z⟩ a=>⟨b,y,r,a.other _ _ _ dC z⟩)| exact fG (fun _ _ _ ⟨G,k,y,r⟩ a=>⟨G,k,y,jL r fun S C W=>a.other _ _ _ dC W⟩)| exact fG (fun _ _ _ ⟨b,k,y,r,z⟩ a=>let ⟨a8,cW⟩:=a.one _ _ z;⟨b,a8,y,r,cW⟩)|(refine zAe.2 ⟨?_,?_⟩)|(intro F Q;cases Q))) ?_ ?_
 · refine aG ?_;refine aD (bP rfl rfl fun x _ I _ _ _ A _ _ _ _ J=>?_) ?_
   · obtain ⟨D,P⟩:=I;have e1:x (.tmp 4)=.pointer (some gn):=A 4 kR;clear A;have e9:=(D.cell (p:=gn) br.out).trans bq.out;go_simp;exact J _ _ (cF bR rfl rfl) rfl
   refine aD (bP rfl rfl fun _ _ I _ _ _ A E _ _ _ J=>?_) ?_
   · obtain ⟨D,P⟩:=I;have eH:_=_:=E 0 18 kR rfl;clear A;have eo:=iN n oM;go_simp;exact J _ _ (fM (bR.alloc nL _) rfl (fun b N=>by simp [blk?] at N;subst N;simp)) ⟨_,rfl,D.size,Bk.new _ _ _⟩
   refine aD (bP rfl rfl fun x _ I _ _ _ A _ _ _ _ J=>?_) ?_
   · obtain ⟨D,P⟩:=I;have eL:x (.tmp 3)=.slice bh n bB:=A 3 kR;clear A;go_simp;exact J _ _ (cF bR rfl rfl) rfl
   refine aD (bP rfl rfl fun _ _ I _ _ _ A E cG _ _ J=>?_) ?_
   · obtain ⟨D,P⟩:=I;have eI:_=_:=E 2 20 kR rfl;clear A;go_simp;refine (qH bh n bB W0.heap.size (aJ K) _ (cl.out.below D) D.size oM).mono ?_;rintro q fA ⟨ar,a8,rfl,bU,e7⟩;refine J _ _ (fM e7 rfl (fun b N=>?_)) ⟨ar,a8,rfl,bU.mono D.size⟩;obtain ⟨_,_,_,_,fp⟩:=aQ bU.own;rcases ar with _ | cG
     · simp [blk?] at N
     obtain ⟨ev,dV,a2,_,aZ⟩:=aQ bU.own;injection a2 with a2;have:=aZ cG a2.symm;simp [blk?] at N;subst N;exact this
   refine aD (bP rfl rfl fun x _ I _ _ _ A _ _ _ _ J=>?_) ?_
   · obtain ⟨D,P⟩:=I;have e1:x (.tmp 4)=.pointer (some gn):=A 4 kR;clear A;have e9:=(D.cell (p:=gn) br.out).trans bq.out;go_simp;exact J _ _ (cF bR rfl rfl) rfl
   refine aD (bP rfl rfl fun _ _ I _ _ _ A E _ _ _ J=>?_) ?_
   · obtain ⟨D,P⟩:=I;have eJ:_=_:=E 4 22 kR rfl;clear A;have eo:=iN n oM;go_simp;exact J _ _ (fM (bR.alloc nL _) rfl (fun b N=>by simp [blk?] at N;subst N;simp)) ⟨_,rfl,D.size,Bk.new _ _ _⟩
   refine aD (bP rfl rfl fun _ _ I _ _ _ A _ _ _ _ J=>?_) ?_
   · obtain ⟨D,P⟩:=I;clear A;go_simp;exact J _ _ (fM (bR.alloc nL _) rfl (fun b N=>by simp [blk?] at N;subst N;simp)) ⟨_,_,rfl,D.size,Bk.new _ _ _⟩
   refine aD (bP rfl rfl fun x aq I _ _ _ A E _ _ _ J=>?_) ?_
   · obtain ⟨D,P⟩:=I;have c9:(fun e s=>∃b,e=.slice (some ⟨b,0,none⟩) n n/\W0.heap.size<=b/\Bk s b 3 (Array.replicate n (.int .i64 0))) (x (.tmp 19)) aq:=E 1 19 kR rfl;clear A;clear c9;go_simp;exact J _ _ (cF bR rfl rfl) (by first | exact e19.symm | rfl)
   refine aD (bP rfl rfl fun x aq I _ _ _ A E _ _ _ J=>?_) ?_
   · obtain ⟨D,P⟩:=I;have cc:(fun e s=>∃b k,e=.pointer (some ⟨b,0,none⟩)/\W0.heap.size<=b/\Bk s b 39 #[k]) (x (.tmp 6)) aq:=E 6 6 kR rfl;have ca:(fun e s=>∃G k,e=.slice G n k/\Made s W0.heap.size 3 1 G n k ((aJ K).map sv)) (x (.tmp 21)) aq:=E 3 21 kR rfl;clear A;obtain ⟨b,k,e2,N,W⟩:=cc;obtain ⟨eu,eB,e0,ff⟩:=ca;have c6:=W.cell 0;have eM:=W.frozen 0;have eV:=W.lt;go_simp;exact J (.bool true) _ (aBR (SetT.set W N _) (by simp [World.setCell]) rfl) ⟨b,e2,N,by rw [e0];exact W.set 0 _⟩
   refine aD (bP rfl rfl fun x aq I _ _ _ A E _ _ _ J=>?_) ?_
   · obtain ⟨D,P⟩:=I;have cb:(fun e s=>∃b,e=.slice (some ⟨b,0,none⟩) n n/\W0.heap.size<=b/\Bk s b 3 (Array.replicate n (.int .i64 0))) (x (.tmp 23)) aq:=E 5 23 kR rfl;clear A;clear cb;go_simp;exact J _ _ (cF bR rfl rfl) (by first | exact e23.symm | rfl)
   exact aC
 · intro x a5 D P E d1;have cT:x (.tmp 5)=x (.tmp 19):=E 7 5 rfl;have cc:(fun e s=>∃b k,e=.pointer (some ⟨b,0,none⟩)/\W0.heap.size<=b/\Bk s b 39 #[k]) (x (.tmp 6)) a5:=E 6 6 rfl;have cU:x (.tmp 7)=x (.tmp 23):=E 9 7 rfl;have c9:(fun e s=>∃b,e=.slice (some ⟨b,0,none⟩) n n/\W0.heap.size<=b/\Bk s b 3 (Array.replicate n (.int .i64 0))) (x (.tmp 19)) a5:=E 1 19 rfl;have ca:(fun e s=>∃G k,e=.slice G n k/\Made s W0.heap.size 3 1 G n k ((aJ K).map sv)) (x (.tmp 21)) a5:=E 3 21 rfl;have cb:(fun e s=>∃b,e=.slice (some ⟨b,0,none⟩) n n/\W0.heap.size<=b/\Bk s b 3 (Array.replicate n (.int .i64 0))) (x (.tmp 23)) a5:=E 5 23 rfl;obtain ⟨fz,dB⟩:=d1 8 dC;have eq:(fun a4 e s=>∃b,a4=.pointer (some ⟨b,0,none⟩)/\W0.heap.size<=b/\Bk s b 39 #[e]) (x (.tmp 6)) (x (.tmp 21)) a5:=dB;clear dB;simp only [zqq];clear E d1;obtain ⟨gx,ba,du,c4⟩:=c9;obtain ⟨g7,aY,eS,cZ⟩:=cb;obtain ⟨dG,c6,aX,bF⟩:=ca;obtain ⟨gr,dm,fl,c0⟩:=eq;rw [aX] at c0;obtain ⟨g6,rfl,eR,cX⟩:∃g6,dG=some ⟨g6,0,none⟩/\W0.heap.size<=g6/\∃C:Array Value,Bk a5 g6 3 C/\n<=C.size/\∀(c:Nat) a4,((aJ K).map sv)[c]?=some a4->C[c]?=some a4:=by
    rcases bF.own.2 with ⟨H,_⟩|⟨b,eC,dX,H,r,z,cW,eP,eQ,e5⟩;injection H with aZ a2;omega
    · injection H with aZ a2 h10;refine ⟨b,aZ,r,dX,z,by omega,fun c a4 b8=>?_⟩;rw [<-e5,zBq,Array.getElem?_toList] at b8;split at b8;exact b8
      · cases b8
   have d8:gx≠g7:=fun q=>P.2 19 (by simp) 23 (by simp) dC gx (by rw [ba];rfl) (by rw [aY,q];rfl);have d9:gx≠g6:=fun q=>P.2 19 (by simp) 21 (by simp) dC gx (by rw [ba];rfl) (by rw [aX,q];rfl);have da:g7≠g6:=fun q=>P.2 23 (by simp) 21 (by simp) dC g7 (by rw [aY];rfl) (by rw [aX,q];rfl);have ea:=bm.out.lt;have d4:=bm.out.below D ea;have dd:=aE.out.trans (D.mono aE.out.size);have eY:=aE.out.size;rw [<-xO] at c4;have ag:n<=c6:=bF.cap;rw [cT,cU,ba,aY,dm];obtain ⟨aP,bj,cg,aM,bn,Z⟩:=hqq6 c4 cZ cX c0 d4 dd;have cp:gx≠g7/\gx≠g6/\g7≠g6:=⟨d8,d9,da⟩;have ck:=lhd cp;clear cT cU ba aY dm c4 cZ cX c0 d4 dd cp d8 d9 da D P cc aX bF cl dH aE bm bq br;go_wp2_with fail;go_loopw [26,8] (fun o _ wr=>∃a:Nat,a<=n/\o=.int .i64 a/\Bk wr gx 3 (eX n a)/\Keep (fun S=>S=gx) a5 wr) (fun o _ _=>n -(intOf o).toNat)
   case atStart=>exact ⟨0,by omega,rfl,aP.out,Keep.refl _ _⟩
   case round=>
    obtain ⟨a,ec,rfl,ae,Y⟩:=hrel;by_cases b5:a < n
    · have cH:=ae.cell a;have e3:=ae.frozen a;rw [zAq (by rw [oW];exact b5)] at cH;obtain ⟨aH,a1⟩:=hqq2 ae Y;clear ae Y;generalize (eX n a)[a]'(by rw [oW];exact b5)=u0 at cH;go_wp2_with fail;go_roundw
      case rel=>exact ⟨a+1,by omega,by go_num,by rw [<-xP _ _ b5];exact aH.out.set a _,a1.out.setCell (.inl rfl) _⟩
      case measure=>simp [intOf];omega
    · obtain rfl:n=a:=oM;obtain ⟨aH,a1⟩:=hqq2 ae Y;clear ae Y;go_wp2_with fail;obtain ⟨gw,bQ⟩:=eqx wr.heap.size;have d5:Bk (wr.alloc (.cells #[(1:Int)] 3)) gw 3 #[(1:Int)]:=bQ ▸ Bk.new _ _ _
      have aj:RInv B.heap.size B m n (aJ K) gn gr gx (wr.alloc (.cells #[(1:Int)] 3)) gw g6 g7 c6 n 1 (oN m) (aJ K):=by
         obtain ⟨cQ,cS,dY⟩:=ck.out;obtain ⟨C,dw,ek,el⟩:=cg.out;have ak:=a1.out;have bb:=ak.size;have fr:=aP.out.lt;have fs:=bn.out.lt;have ft:=bj.out.lt;have ep:=dw.lt;have fw:=aM.out.lt;refine ⟨d5,(ak.bk bn.out (fun q=>by have:=du;omega)).alloc _,(ak.bk aM.out (fun q=>by subst q;exact Bk.ne aM.out aP.out dC rfl)).alloc _,⟨C,(ak.bk dw (fun q=>cS q.symm)).alloc _,ek,el⟩,⟨_,(ak.bk bj.out (fun q=>cQ q.symm)).alloc _,by simp⟩,?_,aBB m,?_,?_,⟨ag,zAs _⟩,?_,?_,wS _,zAs _,ef,?_⟩;have:=aH.out;rw [<-u.out,aAz] at this;exact this.alloc _
         · refine ⟨?_,?_,cS,cQ,?_,?_,dY,?_,?_⟩<;> omega
         · refine ⟨?_,?_,?_,?_⟩<;> omega
         · rw [aT,cB.out,u.out]
         intro ce a3;have:=jE K ce a3;omega;refine (Z.out.trans ?_).alloc oM _;exact ak.to_below (by have:=Z.out.size;omega) (fun S W q=>by have:=du;omega)
      rw [bQ];generalize wr.alloc (.cells #[(1:Int)] 3)=W8 at aj⊢;have av:=lhd aj;clear aj d5 bQ aH a1 ck cg bn aM bj aP Z
      go_loopg [7,9] (n) (fun gk be bf wr=>∃gw g6 g7 c6 c7 wd d R,be=.slice (some ⟨g7,0,none⟩) n c7/\bf=.pointer (some ⟨gw,0,none⟩)/\n - wd<=gk/\RInv B.heap.size B m n (aJ K) gn gr gx wr gw g6 g7 c6 c7 wd d R)
      case atStart=>exact ⟨_,_,_,_,_,_,_,_,rfl,rfl,by omega,av.out⟩
      case round=>
         clear av;obtain ⟨gw,g6,g7,c6,c7,wd,d,R,rfl,rfl,eZ,aj⟩:=hrel;have av:=lhd aj;clear aj;go_wp2_with fail;obtain ⟨ab,bO⟩:=eqx wr.heap.size;have ad:Bk (wr.alloc (.cells #[.func (.func 111) #[] #[.pointer (some ⟨gw,0,none⟩),gn,gr]] 101)) ab 101 #[.func (.func 111) #[] #[.pointer (some ⟨gw,0,none⟩),gn,gr]]:=bO ▸ Bk.new _ _ _;have M:=av.out.grow ((Below.refl wr.heap.size wr).alloc nL (.cells #[.func (.func 111) #[] #[.pointer (some ⟨gw,0,none⟩),gn,gr]] 101));rw [bO];generalize wr.alloc (.cells #[.func (.func 111) #[] #[.pointer (some ⟨gw,0,none⟩),gn,gr]] 101)=W1 at ad M⊢;have bL:d.size=n:=(by rw [M.ok.size,u.out]);have d6:CmpReads prog 112 #[gr,ab] (eK m) (cfF m wd R) gx 0 d.size W1:=fun t am dZ eU be bf=>by have a:=jF (enc:=eK m) M.rows.lt 0 t dZ am;exact rK gw gn gr ab wd n c6 (some ⟨g6,0,none⟩) R be.val bf.val _ (M.ordk a) (((a.bk ad (Bk.ne ad M.rows dC)).cell 0).trans rfl) (by have:=M.wdn;omega) oM M.rle (by have:=be.isLt;have:=u.out;omega) (by have:=bf.isLt;have:=u.out;omega)
         have c2:=Any.slices_SortFunc shSort (eK m) (lA m) (cfF m wd R) (aDt m M.rk) 112 #[gr,ab] gx 0 n d W1 (enters_of func112 kR rfl) d6.lays (aCj M.rows) M.rows.lt oM;rw [bL] at c2;refine c2.mono ?_;clear c2 d6;rintro q aR ⟨rfl,d',nq,am,bX,c3,rfl⟩;have dl:RowsOk m d':=M.ok.of_perm (by rw [bL];exact bX);have b2:=M.keepx (jF (enc:=eK m) M.rows.lt 0 nq d' am) (aCG M.rows bX.1 nq am) dl;have bI:=(jF (enc:=eK m) M.rows.lt 0 nq d' am).bk ad (Bk.ne ad M.rows dC);generalize Go.Proofs.sortWorld (eK m) W1 gx 0 nq d' am=aR at b2 bI⊢;have dp:∀o,o+1 < n->¬ltW (aN (aJ K)) (wd+wd) (cR d' (o+1)) (cR d' o):=(by rw [<-u.out] at c3⊢;exact fun o ai=>aBu b2.rk dl.size c3 o ai);obtain ⟨cA,a6,cm⟩:=hqq3 dp b2 bI;clear dp M b2 ad bI bX c3 bL av bO;have ay:=u.out;have dh:=a6.out.ok.lt 0;have cP:aR.cell? gx=some (.int .i64 ((cR d' 0:Nat):Int)):=(a6.out.rows.cell 0).trans (a6.out.ok.cell oM);obtain ⟨dW,bd,dy⟩:=a6.out.next;obtain ⟨an,bW⟩:=eqx (cR d' 0);rw [bW] at cP dh;have bC:=bd.cell an;rw [zAq oM] at bC;have e4:=bd.frozen an;generalize dW[an]' oM=u7 at bC;have eg:an < n:=oM;obtain ⟨cD,cx⟩:=hqq2 bd bW;clear bd bW ay dh;go_wp2_with fail;clear cP bC e4;go_loopw [12] (fun o dF=>∃a:Nat,1<=a/\a<=n/\o=.int .i64 a/\∃C:Array Value,Bk dF g7 3 C/\n<=C.size/\(∀c,c < a->C[cR d' c]?=some (.int .i64 ((cN (gA (aN R) wd) (cR d') c:Nat):Int)))/\Keep (fun S=>S=g7) aR dF) (fun o _=>n -(intOf o).toNat)
         case atStart=>refine ⟨1,by omega,by omega,rfl,_,cD.out.set an _,by simpa using dy,fun c aB=>?_,(Keep.refl (fun S=>S=g7) aR).setCell (p:=⟨g7,an,none⟩) (.inl rfl) _⟩;obtain rfl:c=0:=oM;rw [cx.out,zCb,zBv rfl,zBv oM];rfl
         case round=>
          clear cD cx eg dy;obtain ⟨a,fc,ec,rfl,C,X,aA,af,Y⟩:=hrel;have L:=a6.out.keep7 Y ⟨C,X,aA⟩;by_cases b5:a < n
          · obtain ⟨c,aB⟩:∃c,a=c+1:=⟨a - 1,by omega⟩;have ay:=u.out;have a0:wr.cell? ⟨gx,a,none⟩=some (.int .i64 ((cR d' a:Nat):Int)):=(L.rows.cell a).trans (L.ok.cell oM);have a9:wr.cell? ⟨gx,c,none⟩=some (.int .i64 ((cR d' c:Nat):Int)):=(L.rows.cell c).trans (L.ok.cell oM);have aU:=(X.cell (cR d' c)).trans (af c oM);have dA:=L.ok.lt a;have dz:=L.ok.lt c;have ax:=X.cell (cR d' a);rw [zAq oM] at ax;have bE:=X.frozen (cR d' a);generalize C[cR d' a]' oM=uk at ax;have aS:=(L.len.cell 0).trans rfl;have aW:IntKind.i64.wrap ((a:Int) - 1)=(c:Int):=(by rw [IntKind.wrap_i64];omega);have ed:decide ((a:Int) < (n:Int))=true:=(by simp;omega);obtain ⟨O,bZ⟩:=eqx (cR d' a);obtain ⟨ao,bY⟩:=eqx (cR d' c);obtain ⟨e,b9⟩:=eqx (cN (gA (aN R) wd) (cR d') c);have ds:=nC (gA (aN R) wd) (cR d') 0 c;rw [zBh,b9] at ds;have fm:e<=1000:=(by have:cN (gA (aN R) wd) (cR d') 0=0:=rfl;omega);rw [bZ] at a0 dA ax bE;rw [bY] at a9 dz aU;rw [b9] at aU;have ei:O < n:=oM;have eh:ao < n:=oM;have fb:c < n:=oM;obtain ⟨au,U,aI,a1,g,aw,cy,dM,aL⟩:=hqq9 X aA af Y L bZ bY b9 aB;clear X aA af Y L bZ bY b9 ds ay dA dz aB;go_wp2_with fail;refine wp_region_still_tail 14 kR kR ?_;simp only [List.take_succ_cons,List.take_zero,List.drop_succ_cons,List.drop_zero];change wpStill _ _ wr.drew (fun dO=>wpList _ _ _ _ dO wr.drew) _ _;have cK:wr.drew.cell? ⟨gx,a,none⟩=_:=a0;have cJ:wr.drew.cell? ⟨gx,c,none⟩=_:=a9;have cM:wr.drew.cell? ⟨g7,ao,none⟩=_:=aU;have cO:wr.drew.cell? ⟨g7,O,none⟩=_:=ax;have cV:wr.drew.frozen? ⟨g7,O,none⟩=false:=bE;obtain ⟨bo,bt,bs⟩:=hqq3 au.out.drew a1.out.drew (g.out.keep7 (Keep.refl _ _).drew ⟨C,au.out.drew,U.out⟩);clear a0 a9 aU ax bE aS au a1 g;generalize wr.drew=W5 at cK cJ cM cO cV bo bt bs⊢
            iterate 14 still_step
            refine wpStill_nil ?_;go_wp2_with fail;have ag:=bo.out.set O (.int .i64 (e:Int));have b3:=bt.out.setCell (p:=⟨g7,O,none⟩) (.inl rfl) (.int .i64 (e:Int));have T:=bs.out.keep7 ((Keep.refl (fun S=>S=g7) W5).setCell (p:=⟨g7,O,none⟩) (.inl rfl) (.int .i64 (e:Int))) ⟨_,ag,by simpa using U.out⟩
            have bJ:=b3.bk cm.out (fun q=>by
               obtain ⟨eF,a2,_⟩:=a6.out.next;subst q;exact Bk.ne cm.out a2 dC rfl)
            generalize W5.setCell ⟨g7,O,none⟩ (.int .i64 (e:Int))=W6 at ag b3 T bJ⊢;clear cK cJ cM cO cV bo bt bs;have a0:W6.cell? ⟨gx,a,none⟩=some (.int .i64 (O:Int)):=(by rw [<-aw.out];exact (T.rows.cell a).trans (T.ok.cell (by have:=u.out;omega)));have a9:W6.cell? ⟨gx,c,none⟩=some (.int .i64 (ao:Int)):=(by rw [<-cy.out];exact (T.rows.cell c).trans (T.ok.cell (by have:=u.out;omega)));obtain ⟨bg,bb⟩:=eqx (gA (aN R) wd ao O);have c8:∀t:Nat,Calls prog 112 #[(ao:Int),(O:Int),gr,ab] (W6.drewN t) fun q w'=>q=.returned (.int .i64 bg)/\∃cd,w'=W6.drewN cd:=fun t=>by have H:=rK gw gn gr ab wd n c6 (some ⟨g6,0,none⟩) R ao O (W6.drewN t) ((T.ordk (Keep.refl _ _)).drewN t) ((bJ.drewN t).cell 0) (by have:=T.wdn;omega) oM T.rle eh ei;rw [bb] at H;exact H.mono fun _ _ ⟨bM,cd,b7⟩=>⟨bM,t+cd,by rw [b7,World.drewN_drewN]⟩
            obtain ⟨aK,ct,dJ,dN⟩:=hqq4 ag b3 T bb;have aV:((a:Int) - 1).toNat=c:=(by have:=aL.out;omega);have aa:(0:Int)<=(a:Int) - 1:=(by have:=aL.out;omega);clear ag b3 T bJ bb;go_quiet ((with_reducible exact c8 _));have bN:cR d' a < C.size:=(by rw [aw.out];have:=U.out;omega);have bS:∀bc,bc < a->cR d' bc≠cR d' a:=fun bc fa q=>by have:=dJ.out.ok.inj (i:=bc) (j:=a) (by have:=u.out;omega) (by have:=u.out;omega) q;omega
            have ah:cN (gA (aN R) wd) (cR d') a=e+(if bg≠0 then 1 else 0):=(by rw [aL.out,<-dM.out];show cN _ _ c+(if gA (aN R) wd (cR d' c) (cR d' (c+1))≠0 then 1 else 0)=_;rw [<-aL.out,aw.out,cy.out,dN.out]);obtain ⟨cq,cr⟩:=hqq2 bN bS;by_cases c5:bg=0
            · subst c5;rw [zBu (by simp),zBo] at ah;have bp:=lhd ah;clear ah bN bS a0 a9 c8 aV aa aW;go_wp2_with fail;go_roundw
              case rel=>refine ⟨a+1,by omega,by omega,by go_num,_,aK.out.drewN _,by simpa using U.out,?_,ct.out.drewN _⟩;have:=qW aI.out cq.out cr.out bp.out;rw [aw.out] at this;exact this
              case measure=>simp [intOf];omega
            · rw [zBv c5] at ah;have bp:=lhd ah;have dV:W6.cell? ⟨g7,O,none⟩=some (.int .i64 (e:Int)):=(by rw [aK.out.cell,zCb,zBv rfl,zBv (by have:=U.out;omega)]);have eN:=aK.out.frozen O;have fn:IntKind.i64.wrap ((e:Int)+1)=((e+1:Nat):Int):=(by rw [IntKind.wrap_i64];omega);have fq:(bg==0)=false:=(by simpa using c5);clear ah bN bS a9 c8 aV aa aW;go_wp2_with fail;go_roundw
              case rel=>refine ⟨a+1,by omega,by omega,by go_num,_,(aK.out.drewN nq).set O _,by simpa using U.out,?_,(ct.out.drewN nq).setCell (p:=⟨g7,O,none⟩) (.inl rfl) _⟩;have:=qW aI.out cq.out cr.out bp.out;rw [aw.out] at this;rw [sB];exact this
              case measure=>simp [intOf];omega
          · obtain rfl:n=a:=oM;have ay:=u.out;obtain ⟨t,b7⟩:∃t,n=t+1:=⟨n - 1,by omega⟩;obtain ⟨al,b4⟩:=eqx (cN (gA (aN R) wd) (cR d') t);have db:=nC (gA (aN R) wd) (cR d') 0 t;rw [zBh,b4] at db;have fd:al<=t:=(by have:cN (gA (aN R) wd) (cR d') 0=0:=rfl;omega);obtain ⟨F,Q⟩:=eqx (cR d' t);have fi:F < n:=(by have:=L.ok.lt t;omega);have ac:=L.box;have eD:=(L.len.cell 0).trans rfl;have ex:=ac.cell 0;have e3:=ac.frozen 0;have b1:∀b C,Bk wr b 3 C->Bk (wr.setCell gr (.slice (some ⟨g7,0,none⟩) n c7)) b 3 C:=fun b C H=>H.far (p:=gr) (Bk.ne H ac dC) _;have a0:(wr.setCell gr (.slice (some ⟨g7,0,none⟩) n c7)).cell? ⟨gx,t,none⟩=some (.int .i64 (F:Int)):=(by rw [<-Q];exact ((b1 _ _ L.rows).cell t).trans (L.ok.cell oM));have cL:(wr.setCell gr (.slice (some ⟨g7,0,none⟩) n c7)).cell? ⟨g7,F,none⟩=some (.int .i64 (al:Int)):=(by rw [<-Q,<-b4];exact ((b1 _ _ X).cell _).trans (af t oM));have aS:=((b1 _ _ L.len).cell 0).trans rfl;have cI:=(ac.set 0 (.slice (some ⟨g7,0,none⟩) n c7)).cell 0;have bD:=((b1 _ _ L.wide).cell 0).trans rfl;have ee:t < n:=oM;have aW:IntKind.i64.wrap ((n:Int) - 1)=(t:Int):=(by rw [IntKind.wrap_i64];omega);obtain ⟨bx,cu,ew,g,au,U,aI,dI,cj⟩:=hqq9 b7 b4 Q L X aA af ac b1;have ed:decide ((n:Int) < (n:Int))=false:=(by simp);clear b7 b4 Q L X aA af Y ac b1 ay db;go_wp2_with fail;have bK:=dI.out.set 0 (.slice (some ⟨g7,0,none⟩) n c7);have bT:=(Keep.refl (fun S=>S=gr) wr).setCell (p:=gr) (.inl rfl) (.slice (some ⟨g7,0,none⟩) n c7);have b1:=cj.out;generalize wr.setCell gr (.slice (some ⟨g7,0,none⟩) n c7)=W9 at a0 cL aS cI bD bK bT b1⊢;have dn:=b1 _ _ g.out.rows;have d0:=b1 _ _ au.out;have dt:=b1 _ _ g.out.wide;have dj:=b1 _ _ g.out.len;obtain ⟨eE,dx,em,en⟩:=g.out.rank;have cY:=b1 _ _ dx;have de:=g.out.below.trans (bT.to_below (by have:=g.out.lo.1;have:=g.out.rows.lt;omega) (fun S W q=>by have:=g.out.lo.2.2.2;omega));obtain ⟨co,cz,ci,cC,cw,ch,a7⟩:=hqq7 bK dn d0 dt dj cY de;clear bK bT b1 dn d0 dt dj cY de dx en cj;have aV:((n:Int) - 1).toNat=t:=(by have:=bx.out;omega);have aa:(0:Int)<=(n:Int) - 1:=(by have:=bx.out;omega);have dk:∀o c,gA (aN R) wd o c=0↔eqW (aN (aJ K)) (wd+wd) o c:=aCS g.out.rk;have df:(aJ K).length=n:=(by rw [aT,cB.out,u.out]);obtain ⟨bw,V⟩:=hqq2 dk df;clear dk df;go_quiet (fail);clear aV aa aW a0 cL aS cI bD;obtain ⟨cn,aO,bl,bz,bu,bi⟩:=hqq6 (co.out.drewN nq) (cz.out.drewN nq) (ci.out.drewN nq) (cC.out.drewN nq) (cw.out.drewN nq) (ch.out.drewN nq);have dc:Below B.heap.size B (W9.drewN nq):=⟨a7.out.os,a7.out.tape,a7.out.output,a7.out.size,a7.out.block⟩;have Z:=lhd dc;clear dc co cz ci cC cw ch a7;generalize W9.drewN nq=W10 at cn aO bl bz bu bi Z⊢;by_cases dg:al=t
            · subst dg;have dq:=g.out.ok.suf (l:=aJ K) (by rw [V.out,u.out]) (w:=wd+wd) (fun o c eb aB=>aDH bw.out cA.out oM (by have:=bx.out;have:=cu.out;rw [show n - 1=al by omega];exact this) o c eb (by have:=u.out;omega));have dL:=lhd dq;clear dq;go_wp2_with fail;go_ret;refine ⟨_,some ⟨gx,0,none⟩,n,dL.out,by rw [u.out];rfl,?_,Z.out⟩;rw [<-aCJ];have:=zA aO.out g.out.lo.1 (n:=n) (by simp [g.out.ok.size,u.out]) (by unfold maxLen;omega);have e8:∀bA,Made W10 B.heap.size 3 1 (some ⟨gx,0,none⟩) n n bA->Made W10 B.heap.size 3 1 (some ⟨gx,0,none⟩) (m+1) n bA:=fun bA H=>by rw [u.out];exact H
              exact e8 _ this
            · have fj:((al:Int)==(t:Int))=false:=(by simp;omega);have fk:(al==t)=false:=(by simp;omega);have bD:=bz.out.cell 0;have eG:=bz.out.lt;have fo:wd<=201:=(by have:=g.out.wdn;omega);go_wp2_with fail;have fh:wd+wd < n:=by rcases zBd (wd+wd) n with H | H;exact H;exfalso;apply dg;rw [<-cu.out];refine aC7 (n:=n) (fun o ai bM=>?_) t ee;have:=(bw.out _ _).1 bM;have eT:=u.out;refine aCV (l:=aJ K) (by rw [V.out];exact H) (by rw [V.out];have:=g.out.ok.lt o;omega) (by rw [V.out];have:=g.out.ok.lt (o+1);omega) (fun q=>?_) this;have:=g.out.ok.inj oM oM q;omega
              go_roundg (n -(wd+wd))
              case measure=>have:=g.out.wd1;omega
              case rel=>
               obtain ⟨cE,dD,er,es,et⟩:=aBH (cs:=C) (f:=cR d') (v:=cN (gA (aN R) wd) (cR d')) U.out (fun c _=>by have:=g.out.ok.lt c;have:=u.out;omega) aI.out (fun F Q=>by
                obtain ⟨o,y,r⟩:=g.out.ok.sur (p:=F) (by have:=u.out;omega);exact ⟨o,by have:=u.out;omega,r⟩)
               have ej:RankOk (aN (aJ K)) (aN cE) (wd+wd):=(by refine aAh (by have:=g.out.wd1;omega) bw.out (fun o ai=>cA.out o (by rw [<-V.out];exact ai)) (by rw [dD,V.out]) (fun o ai=>er o (by rw [<-V.out];exact ai)) (fun F Q=>?_);obtain ⟨o,y,r⟩:=g.out.ok.sur (p:=F) (by have:=u.out;rw [V.out] at Q;omega);exact ⟨o,by have:=u.out;rw [V.out];omega,r⟩);obtain ⟨ey,dP,dQ,dR,ez,dS,dT,eA,dU⟩:=g.out.ap;have fy:=aO.out.lt;have fx:=g.out.wd1;have fu:=bl.out.lt;have ep:=bi.out.lt;have fv:=bu.out.lt;have aa:(wd:Int)*2=((wd+wd:Nat):Int):=oM;rw [aa];refine ⟨_,_,_,_,_,wd+wd,d',cE,rfl,rfl,zAs _,Bk.new _ _ _,bu.out.alloc _,cn.out.alloc _,⟨_,bl.out.alloc _,U.out,es⟩,⟨_,bi.out.alloc _,em⟩,aO.out.alloc _,g.out.ok,⟨?_,dP,dR,dQ,?_,dU,dT.symm,?_,dS⟩,⟨g.out.lo.1,g.out.lo.2.2.1,g.out.lo.2.1,g.out.lo.2.2.2⟩,⟨g.out.cap.2,g.out.cap.1⟩,dD,?_,ej,by omega,by omega,Z.out.alloc Z.out.size _⟩;omega;omega;omega;intro ce a3;obtain ⟨c,aB,rfl⟩:=et ce a3;have:=nC (gA (aN R) wd) (cR d') 0 c;rw [zBh] at this;have eO:cN (gA (aN R) wd) (cR d') 0=0:=rfl;omega
end
end Go.Proofs.YtihaijbgmjdhgaaGreatDoor
