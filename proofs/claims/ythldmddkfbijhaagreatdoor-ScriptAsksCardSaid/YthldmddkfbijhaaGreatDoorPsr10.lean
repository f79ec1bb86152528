/- Lemmas of the walk. Conditions: each its own. -/
import Derived.Test.YthldmddkfbijhaaGreatDoorPsr9
import Derived.Test.YthldmddkfbijhaaGreatDoorProg
import Derived.Test.YthldmddkfbijhaaGreatDoorShl
set_option linter.all false
set_option maxRecDepth 100000
set_option maxHeartbeats 4000000
namespace Go.Proofs.YthldmddkfbijhaaGreatDoor
section
open Go.RowKit
theorem WaveAt.mono {w:World} {B B' gv:Nat} {L:List Nat} (h:WaveAt w B gv L) (hB:B'<=B):WaveAt w B' gv L:=by
 obtain ⟨h0,S,v,h1,h2⟩:=h;exact ⟨zAk hB h0,S,v,h1,fun lv hl=>(h2 lv hl).mono hB⟩
def WalkAt (w:World) (B gk:Nat) (L:List Nat):Prop:=
 ∃gv gt,Bk w gk 100 #[.pointer (some ⟨gv,0,none⟩),.pointer (some ⟨gt,0,none⟩)]/\WaveAt w B gv L/\Bk w gt 199 (tcells L)
theorem WalkAt.vis {w w':World} {B gk:Nat} {L:List Nat} (h:WalkAt w B gk L) (k:Vis w w'):WalkAt w' B gk L:=by
 obtain ⟨gv,gt,h1,h2,h3⟩:=h;exact ⟨gv,gt,k.bk h1 dC dC,h2.vis k,k.bk h3 dC dC⟩
theorem WalkAt.mono {w:World} {B B' gk:Nat} {L:List Nat} (h:WalkAt w B gk L) (hB:B'<=B):WalkAt w B' gk L:=by
 obtain ⟨gv,gt,h1,h2,h3⟩:=h;exact ⟨gv,gt,h1,h2.mono hB,h3⟩
theorem uP (B gv:Nat) (L:List Nat) (w:World) (h:WaveAt w B gv L):
 Calls Tryz.prog 159 #[gv] w fun e w'=>e=.returned (.int .i64 (L.length:Int))/\w=w':=by
 obtain ⟨_,S,v,hb,_⟩:=h;have c9:w.cell? ⟨gv,9,none⟩=some (.int .i64 (L.length:Int)):=by rw [hb.cell];have:=bI S (L.length:Int) v;simp [this]
 clear hb;go_enter Tryz.func159,Tryz.ntmps159;go_wp2;go_ret;exact ⟨rfl,rfl⟩
theorem lB (B gk:Nat) (L:List Nat) (w:World) (h:WalkAt w B gk L):
 Calls Tryz.prog 96 #[gk] w fun e w'=>e=.returned (.int .i64 (L.length:Int))/\w=w':=by
 obtain ⟨gv,gt,h1,h2,h3⟩:=h;have c0:=h1.cell 0;clear h1 h3;go_enter Tryz.func96,Tryz.ntmps96;go_wp2_with fail;refine (uP B gv L _ h2).mono ?_;rintro e w' ⟨rfl,rfl⟩;go_wp2_with fail;go_ret;exact ⟨rfl,rfl⟩
theorem iT (B gk:Nat) (L:List Nat) (s:Nat) (w:World) (h:WalkAt w B gk L) (hs:s < 257) (hl:L.length<=1000):
 Calls Tryz.prog 153 #[gk,(s:Int)] w fun e w'=>e=.returned (.int .i64 ((L.countP (fun x=>decide (x < s)):Nat):Int))/\Below w.heap.size w w':=by
 obtain ⟨gv,gt,h1,h2,h3⟩:=h;have c1:=h1.cell 1;clear h1 h2;have H3:=lhd h3;clear h3;go_enter Tryz.func153,Tryz.ntmps153;go_wp2_with fail;refine (kM gt L s _ H3.out hs hl).mono ?_;rintro e w' ⟨rfl,hb⟩;obtain ⟨q,hq⟩:∃q,L.countP (fun x=>decide (x < s))=q:=⟨_,rfl⟩;rw [hq];go_wp2_with fail;go_ret;exact ⟨by rw [hq];rfl,hb⟩
def cJ (L:List Nat) (s k:Nat):Nat:=L.countP (fun x=>decide (x < s))+(L.take k).count s
end
section
open Go.RowKit Go.Shelf
def nJ (x:Nat×Nat):List Value:= [.int .i64 (x.1:Int),.int .i64 (x.2:Int)]
def bS (C:List (Nat×Nat)):List Value:=C.flatMap nJ
def aB (C:List (Nat×Nat)) (k:Nat):Nat:=(C.getD k (0,0)).1
def aH (C:List (Nat×Nat)) (k:Nat):Nat:=(C.getD k (0,0)).2
theorem dB (C:List (Nat×Nat)):(bS C).length=C.length*2:=by
 induction C with
 | nil=>rfl
 | cons x l ih=>
   have:bS (x::l)=nJ x++bS l:=rfl;rw [this,zAi,ih];simp [nJ];omega
theorem cF (C:List (Nat×Nat)) (k:Nat) (h:k < C.length):(bS C)[k*2]?=some (.int .i64 ((aB C k:Nat):Int))/\(bS C)[k*2+1]?=some (.int .i64 ((aH C k:Nat):Int)):=by
 induction C generalizing k with
 | nil=>cases h
 | cons x l ih=>
   have e:bS (x::l)=nJ x++bS l:=rfl;rcases k with _ | k;exact ⟨rfl,rfl⟩;have:=ih k (by simpa using h);rw [e,zAo (by simp [nJ];omega),zAo (by simp [nJ];omega)];rw [show (k+1)*2 -(nJ x).length=k*2 by simp [nJ];omega,show (k+1)*2+1 -(nJ x).length=k*2+1 by simp [nJ];omega];exact this
structure PRd (W:World) (gb gp:Nat) (A:Option Addr) (n c:Nat) (C:List (Nat×Nat)):Prop where
 box:W.cell? ⟨gb,0,none⟩=some (.pointer (some ⟨gp,0,none⟩))
 sl:W.cell? ⟨gp,1,none⟩=some (.slice A n c)
 rd:Rd W W.heap.size 2 A n (bS C)
theorem PRd.below {W W':World} {gb gp n c:Nat} {A:Option Addr} {C:List (Nat×Nat)} (h:PRd W gb gp A n c C) (hb:gb < W.heap.size) (hp:gp < W.heap.size) (k:Below W.heap.size W W'):PRd W' gb gp A n c C:=
 ⟨(k.cell hb).trans h.box,(k.cell hp).trans h.sl,(h.rd.below k).mono k.size⟩
theorem PRd.drewN {W:World} {gb gp n c:Nat} {A:Option Addr} {C:List (Nat×Nat)} (h:PRd W gb gp A n c C) (q:Nat):PRd (W.drewN q) gb gp A n c C:=⟨h.box,h.sl,h.rd⟩
theorem PRd.at {W:World} {gb gp n c:Nat} {A:Option Addr} {C:List (Nat×Nat)} (h:PRd W gb gp A n c C) {k:Nat} (hk:k < C.length):
 k < n/\∃b off,A=some ⟨b,off,none⟩/\W.cell? ⟨b,off+k*2,none⟩=some (.int .i64 ((aB C k:Nat):Int))/\W.cell? ⟨b,off+k*2+1,none⟩=some (.int .i64 ((aH C k:Nat):Int)):=by
 have hl:=h.rd.1;rw [dB] at hl;have hn:k < n:=oM;obtain ⟨b,off,e,_,hc⟩:=h.rd.2 oM;obtain ⟨h1,h2⟩:=cF C k hk;exact ⟨hn,b,off,e,hc _ _ h1,by rw [Nat.add_assoc];exact hc _ _ h2⟩
theorem aDv (gb gp:Nat) (A:Option Addr) (n c:Nat) (C:List (Nat×Nat)) (k row:Nat) (W:World) (h:PRd W gb gp A n c C) (hk:k < C.length):
 Calls Tryz.prog 195 #[(k:Int),(row:Int),gb] W fun e w'=>e=.returned (.int .i64 (Lib.compareInt (aB C k:Nat) row))/\W=w':=by
 obtain ⟨hkn,b,off,rfl,h1,h2⟩:=h.at hk;have c0:=h.box;have c1:=h.sl;have hcmp:=AnyG.cmp_Compare_int shCmp ((aB C k:Nat):Int) (row:Int) W;change Calls Tryz.prog 175 _ _ _ at hcmp;generalize Lib.compareInt (aB C k:Nat) row=r at hcmp⊢;clear h h2;go_enter Tryz.func195,Tryz.ntmps195;go_wp2_with fail;refine hcmp.mono ?_;rintro e w' ⟨rfl,rfl⟩;go_wp2_with fail;go_ret;exact ⟨rfl,rfl⟩
theorem aBX (gb gq gp:Nat) (A:Option Addr) (n c:Nat) (C:List (Nat×Nat)) (k pos:Nat) (W:World) (h:PRd W gb gp A n c C) (hq:W.cell? ⟨gq,0,none⟩=some (.int .i64 (pos:Int))) (hk:k < C.length):
 Calls Tryz.prog 197 #[(k:Int),gb,gq] W fun e w'=>e=.returned (.bool (decide (aH C k=pos)))/\∃q,w'=W.drewN q:=by
 obtain ⟨hkn,b,off,rfl,h1,h2⟩:=h.at hk;have c0:=h.box;have c1:=h.sl;obtain ⟨x,hx⟩:=eqx (aH C k);rw [hx] at h2⊢;clear h h1 hx;by_cases e:x=pos
 · subst e;go_enter Tryz.func197,Tryz.ntmps197;go_wp2;go_quiet (fail);go_wp2;go_ret;exact ⟨by simp,_,rfl⟩
 · have e1:((x:Int)==(pos:Int))=false:=(by simp;omega);go_enter Tryz.func197,Tryz.ntmps197;go_wp2;go_quiet (fail);go_wp2;go_ret;exact ⟨by simp [e],_,rfl⟩
end
section
open Go.RowKit Go.Shelf
open Go.Sort (Holds)
structure PermAt (w:World) (B gp ga:Nat) (vl vo vt vf:Value) (R P:Nat) (ks:List Nat) (C:List (Nat×Nat)) (tk:List Bool) (fr:List Nat):Prop where
 blk:Bk w gp 166 #[ga,vl,vo,(R:Int),(P:Int)]
 lrow:w.ownsRow B 170 2 vl C.length (bS C)
 orow:w.ownsRow B 3 1 vo ks.length (ks.map sv)
 ar:Bk w ga 221 #[vt,vf,.int .i64 268435456]
 trow:w.ownsRow B 4 1 vt tk.length (tk.map Value.bool)
 frow:w.ownsRow B 3 1 vf fr.length (fr.map sv)
 apart:vo.ownBlock=none∨vo.ownBlock≠vf.ownBlock
 lt:∀k∈ks,k < C.length
 lo:B<=gp/\B<=ga
theorem aEQ {l:List Nat} {f:Nat->Nat} (h:l.Pairwise (fun a b=>f a < f b)) (r:Nat):∀(j x:Nat),l[j]?=some x->(f x < r↔j < l.countP fun k=>decide (f k < r)):=by
 induction l with
 | nil=>intro j x h;cases h
 | cons y l ih=>
   obtain ⟨h1,h2⟩:=List.pairwise_cons.1 h;intro j x hj;rw [zBn];by_cases hy:f y < r
   · rcases j with _ | j
     · simp at hj;subst hj;simp [hy]
     have:=ih h2 j x (by simpa using hj);simp only [hy,decide_true,if_true];omega
   · have h0:(l.countP fun k=>decide (f k < r))=0:=(by rw [List.countP_eq_zero];intro a ha;have:=h1 a ha;simp;omega);rcases j with _ | j
     · simp at hj;subst hj;simp [hy,h0]
     have hx:=h1 x (zAd (by simpa using hj));simp only [h0,hy,decide_false];simp;omega
theorem tT {l:List Nat} {f:Nat->Nat} (h:l.Pairwise (fun a b=>f a < f b)) (r:Nat):(∃x,l[l.countP fun k=>decide (f k < r)]?=some x/\f x=r)↔∃k∈l,f k=r:=by
 constructor;rintro ⟨x,h1,h2⟩;exact ⟨x,zAd h1,h2⟩
 · rintro ⟨k,hk,rfl⟩;obtain ⟨j,hj,rfl⟩:=List.getElem_of_mem hk;have e1:=zAa hj;have h1:=aEQ h (f l[j]) j _ e1;have hle:¬j < l.countP fun k=>decide (f k < f l[j]):=fun e=>by have:=h1.2 e;omega
   rcases zBe (l.countP fun k=>decide (f k < f l[j])) j with h2 | h2
   · have hlt:(l.countP fun k=>decide (f k < f l[j])) < l.length:=oM;have e2:=zAa hlt;have h3:=aEQ h (f l[j]) _ _ e2;have h4:¬f l[l.countP fun k=>decide (f k < f l[j])] < f l[j]:=fun e=>by have:=h3.1 e;omega
     have h5:=zAr.1 h _ _ hlt hj h2;omega
   have e:(l.countP fun k=>decide (f k < f l[j]))=j:=oM;rw [e];exact ⟨_,e1,rfl⟩
def fT (c:Nat) (ks:List Nat):Array (Fin (c+1)):=(ks.map fun k=>(⟨k %(c+1),Nat.mod_lt _ (Nat.succ_pos c)⟩:Fin (c+1))).toArray
theorem nR {c:Nat} {ks:List Nat} (h:∀k∈ks,k < c+1) {j k:Nat} (hj:ks[j]?=some k):((fT c ks)[j]!).val=k:=by
 have hl:j < ks.length:=(zAc.1 hj).1;have hk:=h k (zAd hj);have e:ks[j]=k:=by rw [zAa hl] at hj;injection hj
 rw [aCS _ _ (by simpa [fT] using hl)];simp [fT,e,zBu hk]
theorem aEo {c:Nat} {ks:List Nat} (h:∀k∈ks,k < c+1) (p:Nat->Bool):(fT c ks).toList.countP (fun x=>p x.val)=ks.countP p:=by
 unfold fT;rw [List.countP_map];refine List.countP_congr fun k hk=>?_;simp [zBu (h k hk)]
theorem qC {w:World} {c g:Nat} {ks:List Nat} {cs:Array Value} (hb:Bk w g 3 cs) (h:∀k∈ks,k < c+1) (ht:cs.toList.take ks.length=ks.map sv):Holds (fF c) w g 0 (fT c ks):=by
 intro j hj;have hl:j < ks.length:=by simpa [fT] using hj
 rw [zBi];refine ⟨?_,hb.frozen j⟩;have e:(cs.toList.take ks.length)[j]?=(ks.map sv)[j]?:=by rw [ht]
 rw [zBs,zBx hl,zAf,zAa hl,Array.getElem?_toList] at e;rw [hb.cell,e];have:=nR h (zAa hl);simp [fF,this,sv]
theorem aHM {w w':World} {c g:Nat} {d:Array (Fin (c+1))} (hH:Holds (fF c) w g 0 d) (h:SW (fF c) w g 0 d w'):Below w.heap.size w w':=by
 obtain ⟨n,os,rfl⟩:=h;unfold sortWorld;have e:Go.Sort.putRow (fF c) (Go.Sort.ahead w n) g 0 d=Go.Sort.ahead w n:=Go.Sort.putRow_self (fF c) _ g 0 d hH;rw [e];exact ⟨rfl,rfl,rfl,by show w.heap.size<=(w.heap++os).size;simp,fun k hk=>Go.Sort.heap_grow_old _ _ hk⟩
theorem vY (x y:Int):Lib.compareInt x y < 0↔x < y:=by
 unfold Lib.compareInt;split
 · simp [*]
 · split <;> simp [*]
theorem aIW (x y:Int):Lib.compareInt x y=0↔x=y:=by
 unfold Lib.compareInt;split;simp;omega;split;simp;omega;simp;omega
section
variable {w : World} {B gp ga : Nat} {vl vo vt vf : Value} {R P : Nat} {ks : List Nat} {C : List (Nat × Nat)} {tk : List Bool} {fr : List Nat}
theorem PermAt.prd (h:PermAt w B gp ga vl vo vt vf R P ks C tk fr) {gb:Nat} {w':World} (hb:w'.cell? ⟨gb,0,none⟩=some (.pointer (some ⟨gp,0,none⟩))) (k:Below w.heap.size w w'):∃A n c,vl=.slice A n c/\PRd w' gb gp A n c C:=by
 obtain ⟨A,c,e,_⟩:=aV h.lrow;refine ⟨A,C.length,c,e,hb,?_,?_⟩;have:=(h.blk.below k h.blk.lt).cell 1;rw [e] at this;exact this;have h1:=aP h.lrow k;rw [e] at h1;exact Rd.of_own h1
end
theorem aK2 {ks:List Nat} {C:List (Nat×Nat)} {c row:Nat} (hc:C.length=c+1) (hlt:∀k∈ks,k < C.length) (hs:ks.Pairwise (fun a b=>aB C a < aB C b)):
 ((fT c ks).toList.countP (fun x=>decide (Lib.compareInt (aB C x.val:Nat) row < 0)))=ks.countP (fun k=>decide (aB C k < row))/\
 (decide (((fT c ks).toList.countP (fun x=>decide (Lib.compareInt (aB C x.val:Nat) row < 0))) < (fT c ks).size)&&decide (Lib.compareInt (aB C ((fT c ks)[((fT c ks).toList.countP (fun x=>decide (Lib.compareInt (aB C x.val:Nat) row < 0)))]!).val:Nat) row=0))=decide (∃k∈ks,aB C k=row):=by
 have hlt':∀k∈ks,k < c+1:=fun k hk=>by rw [<-hc];exact hlt k hk
 have e1:(fT c ks).toList.countP (fun x=>decide (Lib.compareInt (aB C x.val:Nat) row < 0))=ks.countP (fun k=>decide (aB C k < row)):=by rw [<-aEo hlt' (fun k=>decide (aB C k < row))];congr 1;funext x;rw [decide_eq_decide,vY];omega
 refine ⟨e1,?_⟩;rw [e1,Bool.eq_iff_iff];simp only [zBd,zCa,aIW];rw [<-tT (f:=aB C) hs row];constructor;rintro ⟨h1,h2⟩;have hl:(ks.countP fun k=>decide (aB C k < row)) < ks.length:=(by simpa [fT] using h1);refine ⟨_,zAa hl,?_⟩;rw [nR hlt' (zAa hl)] at h2;omega;rintro ⟨x,h1,h2⟩;have hl:=(zAc.1 h1).1;refine ⟨by simpa [fT] using hl,?_⟩;rw [nR hlt' h1];omega
theorem kN (B gp ga:Nat) (vl vo vt vf:Value) (R P:Nat) (ks:List Nat) (C:List (Nat×Nat)) (tk:List Bool) (fr:List Nat) (row:Nat) (w:World) (h:PermAt w B gp ga vl vo vt vf R P ks C tk fr) (hs:ks.Pairwise (fun a b=>aB C a < aB C b)) (hk:ks.length<=1099511627776):
 Calls Tryz.prog 148 #[gp,(row:Int)] w fun e w'=>e=.returned (.tuple #[.int .i64 ((ks.countP (fun k=>decide (aB C k < row)):Nat):Int),.bool (decide (∃k∈ks,aB C k=row))])/\Below w.heap.size w w':=by
 have hgp:=h.blk.lt;have hbx:Below w.heap.size w (w.alloc (.cells #[gp] 90)):=bR.alloc nL _;have c2:w.cell? ⟨gp,2,none⟩=some vo:=(h.blk.cell 2).trans rfl;have hcall:∀A n c,vo=.slice A n c->Calls Tryz.prog 194 #[.slice A n c,(row:Int),.func (.func 195) #[] #[w.heap.size]] (w.alloc (.cells #[gp] 90)) fun e w'=>e=.returned (.tuple #[.int .i64 ((ks.countP (fun k=>decide (aB C k < row)):Nat):Int),.bool (decide (∃k∈ks,aB C k=row))])/\Below w.heap.size w w':=by
  intro A n c ev;rcases zBa ks.length with h0 | h0;have hke:ks= []:=zBk h0;obtain ⟨A9,c9,e9,_⟩:=aV h.orow;rw [ev] at e9;injection e9 with _ e9 _;rw [h0] at e9;subst e9;subst hke;refine (Any.slices_BinarySearchFunc_none shBin A c (.int .i64 (row:Int)) (.func (.func 195) #[] #[w.heap.size]) _).mono ?_;rintro e w' ⟨rfl,rfl⟩;exact ⟨by simp,hbx⟩
  · rcases h.orow.2 with ⟨_,e⟩|⟨g,cap,cs,e,hBg,hg,hn,hm,hz,ht⟩;omega
    · rw [ev] at e;injection e with e1 e2 e3;subst e1 e2 e3;rw [zBl] at ht;obtain ⟨k0,hk0⟩:∃k,k∈ks:=(by obtain ⟨x,hx⟩:=List.exists_mem_of_length_pos h0;exact ⟨x,hx⟩);obtain ⟨cc,hcc⟩:∃cc,C.length=cc+1:=⟨C.length - 1,by have:=h.lt k0 hk0;omega⟩;have hlt':∀k∈ks,k < cc+1:=fun k hk=>by rw [<-hcc];exact h.lt k hk
      have hgb:Bk w g 3 cs:=hg;have hgA:=hgb.below hbx hgb.lt;have hH:=qC hgA hlt' ht;have hbox:(w.alloc (.cells #[gp] 90)).cell? ⟨w.heap.size,0,none⟩=some (.pointer (some ⟨gp,0,none⟩)):=(Bk.new w 90 #[gp]).cell 0;have hcmp:CmpLaysT Tryz.prog 195 #[w.heap.size] (fF cc) (.int .i64 (row:Int)) (fun x=>Lib.compareInt (aB C x.val:Nat) row) g 0 (fT cc ks).size (w.alloc (.cells #[gp] 90)):=(by intro q os dk hdk x;have hk9:=jU (enc:=fF cc) hgA.lt 0 q dk os;obtain ⟨A,n,c,e,hp⟩:=h.prd hbox hbx;have hp9:PRd (sortWorld (fF cc) (w.alloc (.cells #[gp] 90)) g 0 q dk os) w.heap.size gp A n c C:=(by refine ⟨?_,?_,?_⟩;exact (hk9.cell (p:=⟨w.heap.size,0,none⟩) (by simp) (fun e=>by have:=hgb.lt;have e':w.heap.size=g:=e;omega)).trans hp.box;exact (hk9.cell (p:=⟨gp,1,none⟩) (by simp;omega) (Bk.ne h.blk hgb dC)).trans hp.sl;have hl1:=aP h.lrow hbx;have hl2:=aA (w':=sortWorld (fF cc) (w.alloc (.cells #[gp] 90)) g 0 q dk os) hl1 fun b cs' _ hb'=>hk9.bk hb' (Bk.ne hb' hgA dC);obtain ⟨A9,c9,e9,_⟩:=aV h.lrow;rw [e] at e9 hl2;injection e9 with e91 e92 e93;subst e92;exact Rd.of_own hl2);exact (aDv w.heap.size gp A n c C x.val row _ hp9 (by rw [hcc];exact x.isLt)).mono fun _ _ ⟨h1,h2⟩=>⟨h1,0,#[],by rw [<-h2,Go.Sort.grow_empty];rfl⟩);have hmono:∀a b,a<=b->b < (fT cc ks).size->Lib.compareInt (aB C ((fT cc ks)[b]!).val:Nat) row < 0->Lib.compareInt (aB C ((fT cc ks)[a]!).val:Nat) row < 0:=(by intro a b hab hb hlt;have hb':b < ks.length:=(by simpa [fT] using hb);rw [nR hlt' (zAa hb'),vY] at hlt;rw [nR hlt' (zAa (show a < ks.length by omega)),vY];rcases Nat.eq_or_lt_of_le hab with rfl | hab;exact hlt;have:=zAr.1 hs a b oM hb' hab;omega);have hz9:(fT cc ks).size=ks.length:=(by simp [fT]);have hB:=Any.slices_BinarySearchFunc shBin (fF cc) (mL cc) (.int .i64 (row:Int)) (fun x=>Lib.compareInt (aB C x.val:Nat) row) 195 #[w.heap.size] g 0 c (fT cc ks) (w.alloc (.cells #[gp] 90)) (enters_of Tryz.func195 kR rfl) hcmp hH hgA.lt (by rw [hz9];omega) hmono;obtain ⟨f1,f2⟩:=aK2 (row:=row) hcc h.lt hs;rw [f1] at f2;rw [f1,f2] at hB;rw [hz9] at hB;refine hB.mono ?_;rintro e w' ⟨rfl,hsw⟩;exact ⟨rfl,hbx.trans ((aHM hH hsw).mono (by simp))⟩
 obtain ⟨A,c,e,_⟩:=aV h.orow;have hc:=hcall _ _ _ e;rw [e] at c2;obtain ⟨i,hi⟩:∃i,ks.countP (fun k=>decide (aB C k < row))=i:=⟨_,rfl⟩;obtain ⟨fd,hfd⟩:∃b,decide (∃k∈ks,aB C k=row)=b:=⟨_,rfl⟩;rw [hi,hfd] at hc;rw [hi,hfd];clear hcall h hs hi hfd hbx e;go_enter Tryz.func148,Tryz.ntmps148;go_wp2_with fail;refine hc.mono ?_;rintro e w' ⟨rfl,hb⟩;go_wp2_with fail;go_ret2;exact ⟨rfl,hb⟩
def jL (p:Nat->Bool):List Nat->Nat->Int
 | [],_=>-1
 | k::l,i=>if p k then (i:Int) else jL p l (i+1)
theorem kY {p:Nat->Bool} {l:List Nat} (h:∀k∈l,p k=false) (i:Nat):jL p l i=-1:=by
 induction l generalizing i with
 | nil=>rfl
 | cons k l ih=>
   unfold jL;rw [zBw (by rw [h k (by simp)];simp)];exact ih (fun k hk=>h k (by simp [hk])) _
theorem uK {p:Nat->Bool} {l:List Nat} (h:∃k∈l,p k=true) (i:Nat):∃(j k:Nat),jL p l i=((i+j:Nat):Int)/\l[j]?=some k/\p k=true:=by
 induction l generalizing i with
 | nil=>obtain ⟨k,hk,_⟩:=h;cases hk
 | cons x l ih=>
   unfold jL;by_cases hx:p x=true;rw [zBx hx];exact ⟨0,x,rfl,rfl,hx⟩;rw [zBw hx];obtain ⟨k,hk,hp⟩:=h;have hk':k∈l:=(by rcases List.mem_cons.1 hk with rfl | h;exact absurd hp hx;exact h);obtain ⟨j,k',h1,h2,h3⟩:=ih ⟨k,hk',hp⟩ (i+1);exact ⟨j+1,k',by rw [h1];congr 1;omega,by simpa using h2,h3⟩
theorem aGx {c:Nat} {ks:List Nat} (h:∀k∈ks,k < c+1) (p:Nat->Bool) (d:Fin (c+1)) (i:Nat):Lib.idxByFrom (fun (_ y:Fin (c+1))=>p y.val) d ((ks.map fun k=>(⟨k %(c+1),Nat.mod_lt _ (Nat.succ_pos c)⟩:Fin (c+1)))) i=jL p ks i:=by
 induction ks generalizing i with
 | nil=>rfl
 | cons k l ih=>
   rw [List.map_cons];unfold Lib.idxByFrom jL;simp only [zBu (h k (by simp))];rw [ih (fun k hk=>h k (by simp [hk]))]
theorem jJ (B gp ga:Nat) (vl vo vt vf:Value) (R P:Nat) (ks:List Nat) (C:List (Nat×Nat)) (tk:List Bool) (fr:List Nat) (pos:Nat) (w:World) (h:PermAt w B gp ga vl vo vt vf R P ks C tk fr) (hk:ks.length<=1099511627776):
 Calls Tryz.prog 149 #[gp,(pos:Int)] w fun e w'=>e=.returned (.int .i64 (jL (fun k=>decide (aH C k=pos)) ks 0))/\Below w.heap.size w w':=by
 have hgp:=h.blk.lt;have c2:w.cell? ⟨gp,2,none⟩=some vo:=(h.blk.cell 2).trans rfl;obtain ⟨W,hW⟩:∃W,W=(w.alloc (.cells #[gp] 90)).alloc (.cells #[(pos:Int)] 3):=⟨_,rfl⟩;have hbx:Below w.heap.size w W:=hW ▸(bR.alloc nL _).alloc (by simp) _;have hbk1:Bk W w.heap.size 90 #[gp]:=hW ▸(Bk.new _ _ _).alloc _;have hbk2:Bk W (w.heap.size+1) 3 #[(pos:Int)]:=by have:=Bk.new (w.alloc (.cells #[gp] 90)) 3 #[(pos:Int)];rw [<-hW] at this;simpa using this
 have hcall:∀A n c,vo=.slice A n c->Calls Tryz.prog 196 #[.slice A n c,.func (.func 197) #[] #[w.heap.size,.pointer (some ⟨w.heap.size+1,0,none⟩)]] W fun e w'=>e=.returned (.int .i64 (jL (fun k=>decide (aH C k=pos)) ks 0))/\Below w.heap.size w w':=by
  intro A n c ev;rcases zBa ks.length with h0 | h0;have hke:ks= []:=zBk h0;obtain ⟨A9,c9,e9,_⟩:=aV h.orow;rw [ev] at e9;injection e9 with _ e9 _;rw [h0] at e9;subst e9;subst hke;refine (AnyE.slices_IndexFunc_empty shIdx A c (.func (.func 197) #[] #[w.heap.size,.pointer (some ⟨w.heap.size+1,0,none⟩)]) _).mono ?_;rintro e w' ⟨rfl,rfl⟩;exact ⟨rfl,hbx⟩
  · rcases h.orow.2 with ⟨_,e⟩|⟨g,cap,cs,e,hBg,hg,hn,hm,hz,ht⟩;omega
    · rw [ev] at e;injection e with e1 e2 e3;subst e1 e2 e3;rw [zBl] at ht;obtain ⟨k0,hk0⟩:∃k,k∈ks:=(by obtain ⟨x,hx⟩:=List.exists_mem_of_length_pos h0;exact ⟨x,hx⟩);obtain ⟨cc,hcc⟩:∃cc,C.length=cc+1:=⟨C.length - 1,by have:=h.lt k0 hk0;omega⟩;have hlt':∀k∈ks,k < cc+1:=fun k hk=>by rw [<-hcc];exact h.lt k hk
      have hgb:Bk w g 3 cs:=hg;have hgA:=hgb.below hbx hgb.lt;have hH:=qC hgA hlt' ht;have hp:PredAt Tryz.prog 197 #[w.heap.size,.pointer (some ⟨w.heap.size+1,0,none⟩)] (fF cc) (fun x=>decide (aH C x.val=pos)) W:=(by intro W' x hb';have hb1:=hbk1.below hb' hbk1.lt;have hb2:=hbk2.below hb' hbk2.lt;obtain ⟨A,n,c,e,hp⟩:=h.prd (w':=W') (hb1.cell 0) (hbx.trans (hb'.mono hbx.size));exact aBX w.heap.size (w.heap.size+1) gp A n c C x.val pos W' hp (hb2.cell 0) (by rw [hcc];exact x.isLt));have hz9:ks.length=(ks.map fun k=>(⟨k %(cc+1),Nat.mod_lt _ (Nat.succ_pos cc)⟩:Fin (cc+1))).length:=(by simp);have hI:=AnyE.slices_IndexFunc shIdx (fF cc) (fun x=>decide (aH C x.val=pos)) 197 #[w.heap.size,.pointer (some ⟨w.heap.size+1,0,none⟩)] (enters_of Tryz.func197 kR rfl) g 0 ks.length c (ks.map fun k=>(⟨k %(cc+1),Nat.mod_lt _ (Nat.succ_pos cc)⟩:Fin (cc+1))) W hp (by simp) oM (fun j hj=>by
       have h1:=(hH j (by simpa [fT] using hj)).1;simpa [fT] using h1)
      rw [zAg (by simp),Lib.idxBy,aGx hlt' (fun k=>decide (aH C k=pos))] at hI;refine hI.mono ?_;rintro e w' ⟨rfl,q,rfl⟩;exact ⟨rfl,hbx.os,hbx.tape,hbx.output,hbx.size,hbx.block⟩
 obtain ⟨A,c,e,_⟩:=aV h.orow;have hc:=hcall _ _ _ e;rw [e] at c2;obtain ⟨i,hi⟩:∃i,jL (fun k=>decide (aH C k=pos)) ks 0=i:=⟨_,rfl⟩;rw [hi] at hc;rw [hi];subst hW;clear hcall h hi hbx e hbk1 hbk2;go_enter Tryz.func149,Tryz.ntmps149;go_wp2_with fail;refine hc.mono ?_;rintro e w' ⟨rfl,hb⟩;go_wp2_with fail;go_ret;exact ⟨rfl,hb⟩
end
section
open Go.RowKit
theorem pT (ga:Nat) (A:Option Addr) (c:Nat) (Af:Option Addr) (cf N M:Nat) (w:World) (hb:Bk w ga 221 #[.slice A N c,.slice Af M cf,.int .i64 268435456]) (hN:N<=1048576) (hM:M<=N):
 Calls Tryz.prog 198 #[ga] w fun e w'=>e=.returned (.int .i64 ((N - M:Nat):Int))/\Below w.heap.size w w':=by
 have c0:w.cell? ⟨ga,0,none⟩=some (.slice A N c):=(hb.cell 0).trans rfl;have c1:w.cell? ⟨ga,1,none⟩=some (.slice Af M cf):=(hb.cell 1).trans rfl;have h64:IntKind.i64.wrap ((N:Int) -(M:Int))=((N - M:Nat):Int):=by rw [IntKind.wrap_i64];omega
 clear hb;go_enter Tryz.func198,Tryz.ntmps198;go_wp2;go_quiet (fail);go_wp2;go_ret;exact ⟨fL oM,below_drewN bR _⟩
theorem sF (B ga:Nat) (A:Option Addr) (c:Nat) (Af:Option Addr) (cf N:Nat) (tk:List Bool) (w:World) (hb:Bk w ga 221 #[.slice A N c,.slice Af 0 cf,.int .i64 268435456]) (hown:w.ownsRow B 4 1 (.slice A N c) N (tk.map Value.bool)) (hB:B<=w.heap.size) (hN:N<=1000000):
 Calls Tryz.prog 150 #[ga] w fun e w'=>e=.returned (.tuple #[(N:Int),.int .i64 0])/\Keep (fun b=>b=ga∨(Value.slice A N c).ownBlock=some b) w w'/\∃vt,Bk w' ga 221 #[vt,.slice Af 0 cf,.int .i64 268435456]/\w'.ownsRow B 4 1 vt (N+1) ((tk++ [true]).map Value.bool)/\(vt.ownBlock=(Value.slice A N c).ownBlock∨∃g,vt.ownBlock=some g/\w.heap.size<=g):=by
 obtain ⟨i0,hi0,hz0,hz1,hz2⟩:=info_parts pB;have hgl:=hb.lt;obtain ⟨Hb,Hown,Hne⟩:=hqq3 hb hown (aY hown hb dC);clear hb hown;go_enter Tryz.func150,Tryz.ntmps150;go_wp2;refine wp_region_any kR ?_;refine aO [10,11,12,13,14,15,16,9] (Grow) (Vs [is ga,is (N:Int),is ga,is ga,is (.pointer (some ⟨ga,2,none⟩)),is (.int .i64 268435456),is (.bool false),is (.bool false)]) _ _ rfl kR bR (fun _ _=>Grow.trans) (cL tA1) ?_ ?_
 · refine aM ?_;refine pH 0 (.pointer (some ⟨ga,0,none⟩)) ?_;refine sC (fun _ w5 hS _ _ _ hval _ _ _ hK=>?_) ?_
   · have e10:_=_:=hval 0 10 kR rfl;replace hS:(Grow) w w5:=⟨hS.os,hS.tape,hS.output,hS.size,hS.block⟩;go_simp;refine (pT ga A c Af cf N 0 w5 (Hb.out.below hS Hb.out.lt) oM oM).mono ?_;rintro e w8 ⟨rfl,hb8⟩;exact hK _ _ hb8 rfl
   refine pH 0 (.pointer (some ⟨ga,0,none⟩)) ?_;refine pV 2 12 ?_;refine pV 3 13 ?_;refine sC (fun _ w5 hS _ _ _ hval _ _ _ hK=>?_) ?_
   · have e14:_=_:=hval 4 14 kR rfl;replace hS:(Grow) w w5:=⟨hS.os,hS.tape,hS.output,hS.size,hS.block⟩;have c15:w5.cell? ⟨ga,2,none⟩=some (.int .i64 268435456):=((Hb.out.below hS Hb.out.lt).cell 2).trans rfl;go_simp;exact hK _ _ bR rfl
   refine sC (fun _ _ _ _ _ _ hval _ _ _ hK=>?_) ?_
   · have e11:_=_:=hval 1 11 kR rfl;have e15:_=_:=hval 5 15 kR rfl;have hne:((N:Int)==268435456)=false:=(by simp;omega);go_simp;exact hK _ _ bR (by first | rfl | simp [is] |(simp [is];omega))
   refine pV 6 16 ?_;exact aC
 · intro ev w6 hS hval;replace hS:(Grow) w w6:=⟨hS.os,hS.tape,hS.output,hS.size,hS.block⟩;have e9:ev (.tmp 9)=.bool false:=hval 7 9 rfl;simp only [aI,zq1,zq2,Act.put,zq3,zq4,zq5];rw [e9];clear hval;have hb2:=Hb.out.below hS Hb.out.lt;have hsz2:=Below.size hS;have hown2:=aP Hown.out hS;have c1:w6.cell? ⟨ga,1,none⟩=some (.slice Af 0 cf):=(hb2.cell 1).trans rfl;have c0:w6.cell? ⟨ga,0,none⟩=some (.slice A N c):=(hb2.cell 0).trans rfl;have f0:=hb2.frozen 0;have hga6:ga < w6.heap.size:=oM;obtain ⟨HS2,Hb2,Hown2⟩:=hqq3 hS hb2 hown2;clear hS hb2 hown2;generalize w6=W2 at Hb2 hsz2 c0 c1 f0 HS2 hga6 Hown2⊢;have a0:=(World.cell?_alloc_lt W2 (Obj.cells #[.bool true] 4) ⟨ga,0,none⟩ hga6).trans c0;go_wp2_with (at_builtin;refine bP _ rfl (.tmp 53) (.tmp 54) _ rfl B 4 i0 (.bool false) 1 1 Tryz.underlying175 hi0 hz0 hz1 hz2 rfl dC (.slice A N c) N _ rfl Hown2.out rfl rfl (by simp [Value.oneCell']) (by unfold maxLen;omega) oM oM ?_;intro v5 w5 hown5 hg5 hs5 hat5;have hbk5:=Hb2.out.grown hg5 Hne.out;obtain ⟨Hown5,Hg5,Hat5,Hbk5⟩:=hqq4 hown5 hg5 hat5 hbk5;have d0:w5.cell? ⟨ga,0,none⟩=some (.slice A N c):=(hbk5.cell 0).trans rfl;have g0:=hbk5.frozen 0;obtain ⟨A9,c9,rfl,hm9⟩:=aS hown5;clear hown5 hg5 hat5 hbk5 hm9);go_ret2;have hset:=Keep.setCell (F:=fun b=>b=ga∨(Value.slice A N c).ownBlock=some b) (Keep.refl _ w5) (p:=⟨ga,0,none⟩) (.inl (.inl rfl)) (.slice A9 (N+1) c9);have hk2:Keep (fun b=>b=ga∨(Value.slice A N c).ownBlock=some b) w W2:=Keep.of_below HS2.out;have hk5:=hk2.grown Hg5.out (fun k hk=>.inl (.inr hk));refine ⟨rfl,hk5.trans' hset (fun b _ h=>h),_,Hbk5.out.set 0 _,?_,?_⟩;have:=aA (w':=w5.setCell ⟨ga,0,none⟩ (.slice A9 (N+1) c9)) Hown5.out fun b cs _ hb'=>hb'.far (Bk.ne hb' Hbk5.out dC) _;simpa using this;rcases Hat5.out with h | h;exact .inl h;exact .inr ⟨_,h,by have:=HS2.out.size;omega⟩
theorem pR (B:Nat) (A:Option Addr) (n c:Nat) (xs:List Value) (Av:Option Addr) (cv k:Nat) (w:World) (hown:w.ownsRow B 3 1 (.slice A n c) n xs) (hr:Rd w w.heap.size 1 Av 1 [sv k]) (hB:B<=w.heap.size) (hn:n<=1000000):
 Calls Tryz.prog 151 #[.slice A n c,(n:Int),.slice Av 1 cv] w fun e w'=>∃v,e=.returned v/\w'.ownsRow B 3 1 v (n+1) (xs++ [sv k])/\w.grownBy w' (Value.slice A n c).ownBlock/\(v.ownBlock=(Value.slice A n c).ownBlock∨v.ownBlock=some w.heap.size):=by
 obtain ⟨i0,hi0,hz0,hz1,hz2⟩:=info_parts gC;have kc:=iL (P:=Tryz.prog) 22 3 1 Tryz.underlying22 Tryz.sizeOf3 A n c n nL;obtain ⟨Hown,Hr⟩:=hqq2 hown hr;clear hown hr;go_enter Tryz.func151,Tryz.ntmps151;go_wp2_with (at_builtin;refine aX _ rfl (.tmp 23) (.tmp 24) _ rfl B 3 i0 (.int .i64 0) 1 8 Tryz.underlying22 hi0 hz0 hz1 hz2 rfl dC (.slice A n c) n _ rfl Hown.out w.heap.size Av 1 cv _ rfl Hr.out (by simp [Value.oneCell',sv]) (by unfold maxLen;omega) oM hB ?_;intro v5 w5 hown5 hg5 hat5);go_ret;exact ⟨v5,rfl,hown5,hg5,hat5⟩
theorem tM:(Tryz.prog.info? 170).map (fun i=>(i.zero,i.size,i.bytes))=some (some (.agg #[.int .i64 0,.int .i64 0]),2,16):=by kernel_rfl
def PF (gp ga:Nat) (vl vo vt:Value) (b:Nat):Prop:=b=gp∨b=ga∨vl.ownBlock=some b∨vo.ownBlock=some b∨vt.ownBlock=some b
theorem kU (C:List (Nat×Nat)) (x:Nat×Nat):bS (C++ [x])=bS C++nJ x:=by simp [bS]
theorem PermAt.below {w w':World} {B gp ga:Nat} {vl vo vt vf:Value} {R P:Nat} {ks:List Nat} {C:List (Nat×Nat)} {tk:List Bool} {fr:List Nat} (h:PermAt w B gp ga vl vo vt vf R P ks C tk fr) (k:Below w.heap.size w w'):PermAt w' B gp ga vl vo vt vf R P ks C tk fr:=
 ⟨h.blk.below k h.blk.lt,aP h.lrow k,aP h.orow k,h.ar.below k h.ar.lt,aP h.trow k,aP h.frow k,h.apart,h.lt,h.lo⟩
theorem gQ {F:Nat->Prop} {w w':World} {B:Nat} {e:TypeId} {sz n:Nat} {v:Value} {xs:List Value} (h:w.ownsRow B e sz v n xs) (k:Keep F w w') (hf:∀b cs,F b->Bk w b e cs->False):w'.ownsRow B e sz v n xs:=
 aA h fun b cs _ hb=>k.bk hb (fun f=>hf b cs f hb)
theorem aIj {w:World} {B g cap:Nat} {C:List (Nat×Nat)} {y:Nat×Nat} (h:w.ownsRow B 170 2 (.slice (some ⟨g,0,none⟩) (C.length+1) cap) (C.length+1) (bS (C++ [y]))) (x:Nat×Nat):
 ((w.setCell ⟨g,C.length*2,none⟩ (.int .i64 (x.1:Int))).setCell ⟨g,C.length*2+1,none⟩ (.int .i64 (x.2:Int))).ownsRow B 170 2 (.slice (some ⟨g,0,none⟩) (C.length+1) cap) (C.length+1) (bS (C++ [x])):=by
 rcases h.2 with ⟨h1,_⟩|⟨g',cap',cur,h1,h2,h3,h4,h5,h6,h7⟩
 · cases h1
 · injection h1 with h8 h9 h10;injection h8 with h8;injection h8 with h8 _;subst h8 h10;have hb:Bk w g 170 cur:=h3;have hb2:=(hb.set (C.length*2) (.int .i64 (x.1:Int))).set (C.length*2+1) (.int .i64 (x.2:Int));refine ⟨by rw [dB];simp,.inr ⟨g,cap,_,rfl,h2,hb2,h4,h5,by simpa using h6,?_⟩⟩;rw [kU] at h7⊢;have hl:=dB C;apply List.ext_getElem?;intro i;have hi:=congrArg (fun l=>l[i]?) h7;simp only [zBs,Array.getElem?_toList] at hi;rw [zBs,Array.getElem?_toList,zCd,zCd];by_cases c1:i < C.length*2
   · rw [zBx oM] at hi⊢;rw [zBw oM,zBw oM,hi,zAn oM,zAn oM]
   · by_cases c2:i=C.length*2;subst c2;rw [zBx oM,zBw oM,zBx rfl,zBx oM,zAo oM,hl,Nat.sub_self];rfl
     · by_cases c3:i=C.length*2+1;subst c3;rw [zBx oM,zBx rfl,zBx (by simp;omega),zAo oM,hl,show C.length*2+1 - C.length*2=1 by omega];rfl
       · rw [zBw oM,zBg (by simp [nJ];omega)]
theorem aDw (B gp ga:Nat) (vl vo vt:Value) (R P:Nat) (ks:List Nat) (C:List (Nat×Nat)) (tk:List Bool) (row pos:Nat) (w:World) (h:PermAt w B gp ga vl vo vt (.slice none 0 0) R P ks C tk []) (hs:ks.Pairwise (fun a b=>aB C a < aB C b))
 (hr:∀k∈ks,aB C k < row) (hp:∀k∈ks,aH C k≠pos) (hR:row < R) (hP:pos < P) (ht:tk.length=C.length) (hC:C.length<=900000) (hk:ks.length<=900000) (hB:B<=w.heap.size):
 Calls Tryz.prog 90 #[gp,(row:Int),(pos:Int)] w fun e w'=>e=.returned (.int .i64 0)/\Keep (PF gp ga vl vo vt) w w'/\∃vl' vo' vt',PermAt w' B gp ga vl' vo' vt' (.slice none 0 0) R P (ks++ [C.length]) (C++ [(row,pos)]) (tk++ [true]) []/\(vo'.ownBlock=vo.ownBlock∨∃g,vo'.ownBlock=some g/\w.heap.size<=g)/\(vl'.ownBlock=vl.ownBlock∨∃g,vl'.ownBlock=some g/\w.heap.size<=g)/\(vt'.ownBlock=vt.ownBlock∨∃g,vt'.ownBlock=some g/\w.heap.size<=g):=by
 obtain ⟨i0,hi0,hz0,hz1,hz2⟩:=info_parts tM;have hcnt:ks.countP (fun k=>decide (aB C k < row))=ks.length:=List.countP_eq_length.2 fun k hk=>by simpa using hr k hk
 have hfnd:decide (∃k∈ks,aB C k=row)=false:=by rw [decide_eq_false_iff_not];rintro ⟨k,hk,e⟩;have:=hr k hk;omega
 have hhas:jL (fun k=>decide (aH C k=pos)) ks 0=-1:=kY (fun k hk=>by simpa using hp k hk) 0;have c3:w.cell? ⟨gp,3,none⟩=some (.int .i64 (R:Int)):=(h.blk.cell 3).trans rfl;have c4:w.cell? ⟨gp,4,none⟩=some (.int .i64 (P:Int)):=(h.blk.cell 4).trans rfl;have hat:=kN B gp ga vl vo vt (.slice none 0 0) R P ks C tk [] row w h hs oM;rw [hcnt,hfnd] at hat;have hhs:=fun W hW=>jJ B gp ga vl vo vt (.slice none 0 0) R P ks C tk [] pos W hW oM;simp only [hhas] at hhs;obtain ⟨n,hn⟩:=eqx ks.length;obtain ⟨N,hN⟩:∃n,C.length=n:=⟨_,rfl⟩;rw [hn] at hat;obtain ⟨Hhs,H,Hn,HN,Ht⟩:=hqq5 hhs h hn hN ht;have hN9:N<=900000:=oM;have hn9:n<=900000:=oM;have HB:=lhd hB;clear hcnt hfnd hhas hhs hs hr hp h hn hN ht hC hk hB;go_enter Tryz.func90,Tryz.ntmps90;go_wp2_with fail;refine hat.mono ?_;clear hat;rintro e w1 ⟨rfl,hb1⟩;have h1:=H.out.below hb1;obtain ⟨H1,Hb1⟩:=hqq2 h1 hb1;clear h1 hb1 c3 c4;go_wp2_with fail;refine (Hhs.out w1 H1.out).mono ?_;rintro e w2 ⟨rfl,hb2⟩;have h2:=H1.out.below hb2;have hb12:=Hb1.out.trans (hb2.mono Hb1.out.size);have c0:w2.cell? ⟨gp,0,none⟩=some (.pointer (some ⟨ga,0,none⟩)):=(h2.blk.cell 0).trans rfl;obtain ⟨H2,Hb2⟩:=hqq2 h2 hb12;clear h2 hb12 hb2 H1 Hb1 Hhs;go_wp2_with fail;obtain ⟨At,ct,hvt,_⟩:=aV H2.out.trow;have htk:tk.length=N:=by rw [Ht.out,HN.out]
 have hT:=sF B ga At ct none 0 N tk w2 (by have:=H2.out.ar;rw [hvt,htk] at this;exact this) (by have:=H2.out.trow;rw [hvt,htk] at this;exact this) (by have:=HB.out;have:=Hb2.out.size;omega) oM;have hvt':vt=.slice At N ct:=by rw [hvt,htk]
 rw [<-hvt'] at hT;refine hT.mono ?_;clear hT hvt hvt' htk;rintro e w3 ⟨rfl,hk3,vt',hbk3,hown3,hfr3⟩;have hgp3:=hk3.bk H2.out.blk (fun f=>by
  rcases f with f | f;exact Bk.ne H2.out.blk H2.out.ar dC f
  · exact aY H2.out.trow H2.out.blk dC f.symm)
 have hvl3:=gQ H2.out.lrow hk3 (fun b cs f hb=>by
  rcases f with f | f;subst f;exact Bk.ne hb H2.out.ar dC rfl
  · exact aY H2.out.trow hb dC f.symm)
 have hvo3:=gQ H2.out.orow hk3 (fun b cs f hb=>by
  rcases f with f | f;subst f;exact Bk.ne hb H2.out.ar dC rfl
  · exact aY H2.out.trow hb dC f.symm)
 obtain ⟨Al,cl,hvl,_⟩:=aV hvl3;have hvl':vl=.slice Al N cl:=by rw [hvl,HN.out]
 have d1:w3.cell? ⟨gp,1,none⟩=some vl:=(hgp3.cell 1).trans rfl;have fp:=hgp3.frozen 1;rw [hvl'] at d1;have hgp3l:=hgp3.lt;rw [HN.out] at hvl3;have hB3:B<=w3.heap.size:=by have:=hk3.size;have:=HB.out;have:=Hb2.out.size;omega
 obtain ⟨Hk3,Hbk3,Hown3,Hfr3,Hgp3,Hvl3,Hvo3,Hvl⟩:=hqq8 hk3 hbk3 hown3 hfr3 hgp3 hvl3 hvo3 hvl';have e1:=(World.cell?_alloc_lt w3 (Obj.cells #[.int .i64 0,.int .i64 0] 170) ⟨gp,1,none⟩ hgp3l).trans d1;clear hk3 hbk3 hown3 hfr3 hgp3 hvl3 hvo3 hvl hvl' c0;go_wp2_with fail;refine wp_loop_rounds 2 ?_;rw [rounds_succ];go_wp2_with (at_builtin;refine bP _ rfl (.tmp 72) (.tmp 74) _ rfl B 170 i0 (.agg #[.int .i64 0,.int .i64 0]) 2 16 Tryz.underlying109 hi0 hz0 hz1 hz2 rfl dC vl N _ Hvl.out.symm Hvl3.out rfl rfl (by simp [Value.oneCell']) (by unfold maxLen;omega) oM hB3 ?_;intro v5 w5 hown5 hg5 hs5 hat5;have hbk5:=Hgp3.out.grown hg5 (aY Hvl3.out Hgp3.out dC);have d5:w5.cell? ⟨gp,1,none⟩=some vl:=(hbk5.cell 1).trans rfl;have f5:=hbk5.frozen 1;rw [Hvl.out] at d5;obtain ⟨A9,c9,rfl,hm9⟩:=aS hown5;obtain ⟨Hbk5,Hown5,Hg5,Hat5⟩:=hqq4 hbk5 hown5 hg5 hat5;clear hm9 hown5 hg5 hat5 hbk5);obtain ⟨g9,cur9,rfl,hg9,hb9,hcz9⟩:∃g9,∃cur:Array Value,A9=some ⟨g9,0,none⟩/\B<=g9/\Bk w5 g9 170 cur/\N*2+1 < cur.size:=by rcases Hown5.out.2 with ⟨h1,h2⟩|⟨g,cap,cur,h1,h2,h3,h4,h5,h6,h7⟩;omega;injection h1 with h1 _ _;exact ⟨g,cur,h1,h2,h3,by omega⟩
 have hgpn:gp≠g9:=Bk.ne Hbk5.out hb9 dC;have hgp6:=Hbk5.out.set 1 (.slice (some ⟨g9,0,none⟩) (N+1) c9);have hb96:=hb9.far (p:=⟨gp,1,none⟩) (fun e=>hgpn e.symm) (.slice (some ⟨g9,0,none⟩) (N+1) c9);have hk6:Keep (PF gp ga vl vo vt) w2 (w5.setCell ⟨gp,1,none⟩ (.slice (some ⟨g9,0,none⟩) (N+1) c9)):=
  ((Hk3.out.mono (G:=PF gp ga vl vo vt) (fun b _ f=>by rcases f with f | f;exact .inr (.inl f);exact .inr (.inr (.inr (.inr f))))).grown Hg5.out (fun k hk=>.inl (.inr (.inr (.inl hk))))).setCell (.inl (.inl rfl)) _
 have hvl6:=aA (w':=w5.setCell ⟨gp,1,none⟩ (.slice (some ⟨g9,0,none⟩) (N+1) c9)) Hown5.out fun b cs _ hb=>hb.far (p:=⟨gp,1,none⟩) (Bk.ne hb Hbk5.out dC) _;have hvo5:=aA (w':=w5) Hvo3.out fun b cs _ hb=>hb.grown Hg5.out (aY Hvl3.out hb dC);have hvo6:=aA (w':=w5.setCell ⟨gp,1,none⟩ (.slice (some ⟨g9,0,none⟩) (N+1) c9)) hvo5 fun b cs _ hb=>hb.far (p:=⟨gp,1,none⟩) (Bk.ne hb Hbk5.out dC) _;have hga5:=Hbk3.out.grown Hg5.out (aY Hvl3.out Hbk3.out dC);have hga6:=hga5.far (p:=⟨gp,1,none⟩) (Bk.ne hga5 Hbk5.out dC) (.slice (some ⟨g9,0,none⟩) (N+1) c9);have hvt5:=aA (w':=w5) Hown3.out fun b cs _ hb=>hb.grown Hg5.out (aY Hvl3.out hb dC);have hvt6:=aA (w':=w5.setCell ⟨gp,1,none⟩ (.slice (some ⟨g9,0,none⟩) (N+1) c9)) hvt5 fun b cs _ hb=>hb.far (p:=⟨gp,1,none⟩) (Bk.ne hb Hbk5.out dC) _;have hfr6:(Value.slice (some ⟨g9,0,none⟩) (N+1) c9).ownBlock=vl.ownBlock∨∃g,(Value.slice (some ⟨g9,0,none⟩) (N+1) c9).ownBlock=some g/\w2.heap.size<=g:=by rcases Hat5.out with f | f;exact .inl f;exact .inr ⟨_,f,by have:=Hk3.out.size;omega⟩
 clear Hk3 Hbk3 Hown3 Hgp3 Hvl3 Hvo3 Hbk5 Hown5 Hg5 Hat5 d1 fp e1 f5 d5 hvo5 hga5 hvt5;generalize w5.setCell ⟨gp,1,none⟩ (.slice (some ⟨g9,0,none⟩) (N+1) c9)=w6 at hgp6 hb96 hk6 hvl6 hvo6 hga6 hvt6⊢;have d1:w6.cell? ⟨gp,1,none⟩=some (.slice (some ⟨g9,0,none⟩) (N+1) c9):=(hgp6.cell 1).trans rfl;have x0:=hb96.cell (N*2);have x1:=hb96.cell (N*2+1);rw [zAq oM] at x0 x1;have y0:=hb96.frozen (N*2);have y1:=hb96.frozen (N*2+1);generalize cur9[N*2]' oM=u0 at x0;generalize cur9[N*2+1]' oM=u1 at x1;obtain ⟨Hgp6,Hb96,Hk6,Hvl6,Hvo6,Hga6,Hvt6,Hfr6⟩:=hqq8 hgp6 hb96 hk6 hvl6 hvo6 hga6 hvt6 hfr6;have hlt1:decide (N+1<=N)=false:=by simp
 have hlt2:decide ((N:Int)+1<=(N:Int))=false:=by simp;omega
 have d2:w6.cell? ⟨gp,2,none⟩=some vo:=(hgp6.cell 2).trans rfl;obtain ⟨Ao,co,hvo,_⟩:=aV hvo6;have hvo':vo=.slice Ao n co:=by rw [hvo,Hn.out]
 have Hvo:=lhd hvo';rw [hvo'] at d2;clear hgp6 hb96 hk6 hvl6 hvo6 hga6 hvt6 hfr6 hvo hvo' hb9 hcz9;rw [rounds_succ];go_wp2_with fail
 have hvl7:=aIj (C:=C) (y:=(0,0)) (g:=g9) (cap:=c9) (w:=w6) (B:=B) (by
  rw [HN.out,kU];exact Hvl6.out) (row,pos)
 rw [HN.out] at hvl7;have hkk:Keep (fun b=>b=g9) w6 ((w6.setCell ⟨g9,N*2,none⟩ (.int .i64 (row:Int))).setCell ⟨g9,N*2+1,none⟩ (.int .i64 (pos:Int))):=((Keep.refl (fun b=>b=g9) w6).setCell (p:=⟨g9,N*2,none⟩) (.inl rfl) _).setCell (p:=⟨g9,N*2+1,none⟩) (.inl rfl) _;have hsz7:((w6.setCell ⟨g9,N*2,none⟩ (.int .i64 (row:Int))).setCell ⟨g9,N*2+1,none⟩ (.int .i64 (pos:Int))).heap.size=w6.heap.size:=by simp [World.setCell]
 rw [<-hsz7];clear x0 x1 y0 y1 d1 d2 hlt1 hlt2;generalize (w6.setCell ⟨g9,N*2,none⟩ (.int .i64 (row:Int))).setCell ⟨g9,N*2+1,none⟩ (.int .i64 (pos:Int))=w7 at hvl7 hkk hsz7⊢;have hgp7:=hkk.bk Hgp6.out (fun f=>hgpn f);have hga7:=hkk.bk Hga6.out (fun f=>by subst f;exact Bk.ne Hga6.out Hb96.out dC rfl);have hvo7:=gQ Hvo6.out hkk (fun b cs f hb=>by subst f;exact Bk.ne hb Hb96.out dC rfl);have hvt7:=gQ Hvt6.out hkk (fun b cs f hb=>by subst f;exact Bk.ne hb Hb96.out dC rfl);have hB2:B<=w2.heap.size:=by have:=HB.out;have:=Hb2.out.size;omega
 have hB6:=Hk6.out.size;have hB7:B<=(w7.alloc (.cells #[(N:Int)] 3)).heap.size:=by simp;omega
 have hz8:w7.heap.size < (w7.alloc (.cells #[(N:Int)] 3)).heap.size:=by simp
 have hrd8:Rd (w7.alloc (.cells #[(N:Int)] 3)) (w7.alloc (.cells #[(N:Int)] 3)).heap.size 1 (some ⟨w7.heap.size,0,none⟩) 1 [sv N]:=(Rd.new_ w7 3 1 #[(N:Int)] rfl).mono (by simp);have hvo8:=hvo7.alloc (.cells #[(N:Int)] 3);have hvl8:=hvl7.alloc (.cells #[(N:Int)] 3);have hvt8:=hvt7.alloc (.cells #[(N:Int)] 3);have hgp8:=hgp7.alloc (.cells #[(N:Int)] 3);have hga8:=hga7.alloc (.cells #[(N:Int)] 3);have hb78:Below w7.heap.size w7 (w7.alloc (.cells #[(N:Int)] 3)):=bR.alloc nL _;obtain ⟨g7,hg7⟩:∃g,w7.heap.size=g:=⟨_,rfl⟩;rw [hg7] at hrd8 hz8;rw [hg7];generalize w7.alloc (.cells #[(N:Int)] 3)=w8 at hB7 hrd8 hvo8 hvl8 hvt8 hgp8 hga8 hb78 hz8⊢;have hk8:Keep (PF gp ga vl vo vt) w2 w8:=(Hk6.out.trans' (hkk.trans' (Keep.of_below hb78) (fun _ _ f=>f)) (fun b hb f=>by
  rcases Hfr6.out with h |⟨g,h,h'⟩;exact .inr (.inr (.inl (by rw [<-h,f];rfl)))
  · exfalso;have:g9=g:=(by simpa [Value.ownBlock] using h);omega))
 rw [Hn.out,Hvo.out] at hvo8;have hins:=pR B Ao n co (ks.map sv) (some ⟨g7,0,none⟩) 1 N w8 hvo8 hrd8 hB7 oM;refine hins.mono ?_;clear hins;rintro e w9 ⟨v9,rfl,hown9,hg9',hat9⟩;rw [<-Hvo.out] at hg9' hat9 hvo8;have hgp9:=hgp8.grown hg9' (aY hvo8 hgp8 dC);have hga9:=hga8.grown hg9' (aY hvo8 hga8 dC);have hvl9:=aA (w':=w9) hvl8 fun b cs _ hb=>hb.grown hg9' (aY hvo8 hb dC);have hvt9:=aA (w':=w9) hvt8 fun b cs _ hb=>hb.grown hg9' (aY hvo8 hb dC);have hk9:=hk8.grown hg9' (fun k hk=>.inl (.inr (.inr (.inr (.inl hk)))));have hfr9:v9.ownBlock=vo.ownBlock∨∃g,v9.ownBlock=some g/\w2.heap.size<=g:=by rcases hat9 with f | f;exact .inl f;exact .inr ⟨_,f,hk8.size⟩
 have d2:w9.cell? ⟨gp,2,none⟩=some vo:=(hgp9.cell 2).trans rfl;rw [Hvo.out] at d2;have f2:=hgp9.frozen 2;obtain ⟨A',c',hv9,_⟩:=aV hown9;obtain ⟨Hv9,Hgp9,Hga9,Hvl9,Hvt9,Hown9,Hk9,Hfr9⟩:=hqq8 hv9 hgp9 hga9 hvl9 hvt9 hown9 hk9 hfr9;clear hvl7 hkk hsz7 hgp7 hga7 hvo7 hvt7 hB7 hz8 hrd8 hvo8 hvl8 hvt8 hgp8 hga8 hb78 hg7 hk8 hg9' hat9 hgp9 hga9 hvl9 hvt9 hown9 hk9 hfr9;subst hv9;go_wp2_with fail;go_ret;have hne:∀b t cs,Bk w9 b t cs->t≠166->Bk (w9.setCell ⟨gp,2,none⟩ (.slice A' (n+1) c')) b t cs:=fun b t cs hb ht=>hb.far (p:=⟨gp,2,none⟩) (Bk.ne hb Hgp9.out ht) _;refine ⟨rfl,(Keep.of_below Hb2.out).trans' (Hk9.out.setCell (.inl (.inl rfl)) _) (fun _ _ f=>f),.slice (some ⟨g9,0,none⟩) (N+1) c9,.slice A' (n+1) c',vt',⟨Hgp9.out.set 2 _,?_,?_,hne _ _ _ Hga9.out dC,?_,?_,?_,?_,H.out.lo⟩,?_,?_,?_⟩;have:=aA (w':=w9.setCell ⟨gp,2,none⟩ (.slice A' (n+1) c')) Hvl9.out fun b cs _ hb=>hne _ _ _ hb dC;simpa [HN.out] using this;have:=aA (w':=w9.setCell ⟨gp,2,none⟩ (.slice A' (n+1) c')) Hown9.out fun b cs _ hb=>hne _ _ _ hb dC;simpa [Hn.out,HN.out] using this;have:=aA (w':=w9.setCell ⟨gp,2,none⟩ (.slice A' (n+1) c')) Hvt9.out fun b cs _ hb=>hne _ _ _ hb dC;simpa [Ht.out,HN.out] using this;exact World.ownsRow_nil _ _ _ _;rcases (Value.slice A' (n+1) c').ownBlock with _ | g;exact .inl rfl;exact .inr (by simp [Value.ownBlock]);intro k hk;rcases zCp.1 hk with h | h;have:=H.out.lt k h;simp;omega;simp at h;simp;omega;rcases Hfr9.out with f |⟨g,f,f'⟩;exact .inl f;exact .inr ⟨g,f,by have:=Hb2.out.size;omega⟩;rcases Hfr6.out with f |⟨g,f,f'⟩;exact .inl f;exact .inr ⟨g,f,by have:=Hb2.out.size;omega⟩;rcases Hfr3.out with f |⟨g,f,f'⟩;exact .inl f;exact .inr ⟨g,f,by have:=Hb2.out.size;omega⟩
def OwnF (F:Nat->Prop) (v:Value):Prop:=∀b,v.ownBlock=some b->F b
def Gw (F:Nat->Prop) (n:Nat) (b:Nat):Prop:=F b∨n<=b
theorem Gw.keep {F:Nat->Prop} {w w1 w2:World} (h:Keep F w w1) (k:Keep (Gw F w.heap.size) w1 w2):Keep F w w2:=h.trans' k fun b hb g=>by
 rcases g with g | g;exact g;omega
theorem OwnF.mono {F G:Nat->Prop} {v:Value} (h:OwnF F v) (k:∀b,F b->G b):OwnF G v:=fun b hb=>k b (h b hb)
theorem OwnF.slice {F:Nat->Prop} {g o n c:Nat} (h:F g):OwnF F (.slice (some ⟨g,o,none⟩) n c):=fun b hb=>by
 injection hb with hb;rw [<-hb];exact h
theorem OwnF.at {F:Nat->Prop} {g o n c:Nat} (h:OwnF F (.slice (some ⟨g,o,none⟩) n c)):F g:=h g rfl
def ArenaE (w:World) (F:Nat->Prop) (ga:Nat) (tk:List Bool) (fr:List Nat):Prop:=
 F ga/\∃At ct Af cf,Bk w ga 221 #[.slice At tk.length ct,.slice Af fr.length cf,.int .i64 268435456]/\w.ownsRow 0 4 1 (.slice At tk.length ct) tk.length (tk.map Value.bool)/\w.ownsRow 0 3 1 (.slice Af fr.length cf) fr.length (fr.map sv)/\OwnF F (.slice At tk.length ct)/\OwnF F (.slice Af fr.length cf)
theorem ArenaE.vis {w w':World} {F:Nat->Prop} {ga:Nat} {tk:List Bool} {fr:List Nat} (h:ArenaE w F ga tk fr) (k:Vis w w'):ArenaE w' F ga tk fr:=by
 obtain ⟨h0,At,ct,Af,cf,h1,h2,h3,h4,h5⟩:=h;exact ⟨h0,At,ct,Af,cf,k.bk h1 dC dC,k.own h2 dC dC,k.own h3 dC dC,h4,h5⟩
theorem ArenaE.mono {w:World} {F G:Nat->Prop} {ga:Nat} {tk:List Bool} {fr:List Nat} (h:ArenaE w F ga tk fr) (k:∀b,b < w.heap.size->F b->G b):ArenaE w G ga tk fr:=by
 obtain ⟨h0,At,ct,Af,cf,h1,h2,h3,h4,h5⟩:=h;exact ⟨k _ h1.lt h0,At,ct,Af,cf,h1,h2,h3,fun b hb=>k b (h2.lt b hb).2 (h4 b hb),fun b hb=>k b (h3.lt b hb).2 (h5 b hb)⟩
theorem ArenaE.keep {w w':World} {F G:Nat->Prop} {ga:Nat} {tk:List Bool} {fr:List Nat} (h:ArenaE w F ga tk fr) (k:Keep G w w') (hf:∀b t cs,t∈ [221,4,3]->Bk w b t cs->F b->¬G b):ArenaE w' F ga tk fr:=by
 obtain ⟨h0,At,ct,Af,cf,h1,h2,h3,h4,h5⟩:=h;refine ⟨h0,At,ct,Af,cf,k.bk h1 (hf _ _ _ dC h1 h0),aA h2 fun b cs hb hk=>k.bk hk (hf _ _ _ dC hk (h4 b hb)),aA h3 fun b cs hb hk=>k.bk hk (hf _ _ _ dC hk (h5 b hb)),h4,h5⟩
end
end Go.Proofs.YthldmddkfbijhaaGreatDoor
