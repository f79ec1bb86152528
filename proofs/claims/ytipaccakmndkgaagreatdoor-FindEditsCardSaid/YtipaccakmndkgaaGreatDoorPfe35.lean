/- A text with its pairs (TpAt), live.New; arguments of literals. Conditions: a text of at most 127 bytes. The walks of perm's each, with the closures of RowIn, RowOut, RowMove, PosIn, PosOut. Conditions: at most 2^20 pairs. -/
import Derived.Test.YtipaccakmndkgaaGreatDoorPfe34
import Derived.Test.YtipaccakmndkgaaGreatDoorPfe25
import Derived.Lib.SlBytesConst
import Derived.Test.YtipaccakmndkgaaGreatDoorPfe22
import Derived.Test.YtipaccakmndkgaaGreatDoorPfe19
import Derived.BigQuiet
namespace Go.Proofs.YtipaccakmndkgaaGreatDoor
open Go.RowKit
set_option linter.unusedVariables false
set_option linter.unusedSimpArgs false
def TpAt (w:World) (Bw gl:Nat) (t:List UInt8) (rate:Nat):Prop:=
 ∃rs gk gp pr,IsSuf (symL t) rs∧LiveG w Bw gl gk gp rate (t.length+1) (lastL (symL t) rs) pr∧(∀x∈pr,rs[x.1]?=some x.2)∧(∃x∈pr,x.2=0)∧t.length≤127
theorem TpAt.vis {w w':World} {Bw gl:Nat} {t:List UInt8} {rate:Nat} (h:TpAt w Bw gl t rate) (k:Vis w w'):TpAt w' Bw gl t rate:=by
 obtain ⟨rs,gk,gp,pr,h1,h2,h3⟩:=h
 exact ⟨rs,gk,gp,pr,h1,h2.vis k,h3⟩
theorem VB.grow {Bw:Nat} {w w1 w2:World} (h:VB Bw w w1) (k:Below w.heap.size w1 w2):VB Bw w w2:=
 ⟨⟨k.os.trans h.1.os,k.tape.trans h.1.tape,k.output.trans h.1.output,Nat.le_trans h.1.size k.size,fun b hb hn=>by
   rcases h.1.block b hb hn with e |⟨cs,v,h1,h2⟩|⟨cs,v,h1,h2⟩
   · exact .inl ((k.block b hb).trans e)
   · exact .inr (.inl ⟨cs,v,h1,h2.below k hb⟩)
   · exact .inr (.inr ⟨cs,v,h1,h2.below k hb⟩)⟩,
  ⟨k.os.trans h.2.os,k.tape.trans h.2.tape,k.output.trans h.2.output,Nat.le_trans h.2.size k.size,fun b hb hn=>(k.block b hb).trans (h.2.block b hb hn)⟩⟩
theorem TpAt.mono {w:World} {B B' gl:Nat} {t:List UInt8} {rate:Nat} (h:TpAt w B gl t rate) (hB:B'≤B):TpAt w B' gl t rate:=by
 obtain ⟨rs,gk,gp,pr,h1,h2,h3⟩:=h
 exact ⟨rs,gk,gp,pr,h1,h2.mono hB,h3⟩
theorem rd_mark (w:World) (e:TypeId) (cs:Array Value) (fr:Nat×Nat) (n:Nat) (hs:cs.size=n):Rd (w.alloc (.cells cs e fr)) (w.heap.size+1) 1 (some ⟨w.heap.size,0,none⟩) n cs.toList:=by
 refine ⟨by simp [hs],fun _=>⟨_,0,rfl,by omega,fun j u hu=>?_⟩⟩
 rw [Nat.zero_add,cell_of_row (w.alloc (.cells cs e fr)) w.heap.size j cs e fr (heap_alloc_new w _)]
 simpa using hu
theorem str_const (w:World) (C:Array Value) (n c:Nat):(convert 23 23 (.slice (some ⟨w.heap.size,0,none⟩) n c)).run Tryz.prog (w.alloc (.cells C 5))=.ok (.slice (some ⟨w.heap.size,0,none⟩) n c) (w.alloc (.cells C 5 (C.size,C.size+1))):=
 Lib.run_convert_bytes_const (P:=Tryz.prog) w 23 5 C n c Tryz.underlying23 Tryz.underlying5
theorem str_const1 (w:World) (o:Obj) (C:Array Value) (n c:Nat):(convert 23 23 (.slice (some ⟨w.heap.size+1,0,none⟩) n c)).run Tryz.prog ((w.alloc o).alloc (.cells C 5))=.ok (.slice (some ⟨w.heap.size+1,0,none⟩) n c) ((w.alloc o).alloc (.cells C 5 (C.size,C.size+1))):=by
 have:=str_const (w.alloc o) C n c
 rw [World.size_alloc] at this
 exact this
theorem parts_one (W:World) (cs:Array Value) (fr:Nat×Nat) (bs:List UInt8) (n:Nat) (hcs:cs.toList=bs.map bv) (hn:bs.length=n):
 Rd ((W.alloc (.cells cs 5 fr)).alloc (.cells #[.slice (some ⟨W.heap.size,0,none⟩) n n] 23)) (W.heap.size+2) 1 (some ⟨W.heap.size+1,0,none⟩) 1 ([(⟨some ⟨W.heap.size,0,none⟩,n,n,bs⟩:Sl)].map slV)∧
 (∀s∈ [(⟨some ⟨W.heap.size,0,none⟩,n,n,bs⟩:Sl)],Rd ((W.alloc (.cells cs 5 fr)).alloc (.cells #[.slice (some ⟨W.heap.size,0,none⟩) n n] 23)) (W.heap.size+2) 1 s.A s.n (s.l.map bv)):=by
 constructor
 · have:=Rd.new_ (W.alloc (.cells cs 5 fr)) 23 1 #[.slice (some ⟨W.heap.size,0,none⟩) n n] rfl
   rw [World.size_alloc] at this
   exact this
 · intro s hs
   simp at hs
   subst hs
   have h1:=rd_mark W 5 cs fr n (by rw [←Array.length_toList,hcs];simp [hn])
   rw [hcs] at h1
   exact (h1.alloc (by simp) _).mono (by omega)
theorem parts_two (W:World) (cs ds:Array Value) (fr fr':Nat×Nat) (bs bs':List UInt8) (n m:Nat) (hcs:cs.toList=bs.map bv) (hn:bs.length=n) (hds:ds.toList=bs'.map bv) (hm:bs'.length=m):
 Rd (((W.alloc (.cells cs 5 fr)).alloc (.cells ds 5 fr')).alloc (.cells #[.slice (some ⟨W.heap.size,0,none⟩) n n,.slice (some ⟨W.heap.size+1,0,none⟩) m m] 23)) (W.heap.size+3) 1 (some ⟨W.heap.size+2,0,none⟩) 2 ([(⟨some ⟨W.heap.size,0,none⟩,n,n,bs⟩:Sl),⟨some ⟨W.heap.size+1,0,none⟩,m,m,bs'⟩].map slV)∧
 (∀s∈ [(⟨some ⟨W.heap.size,0,none⟩,n,n,bs⟩:Sl),⟨some ⟨W.heap.size+1,0,none⟩,m,m,bs'⟩],Rd (((W.alloc (.cells cs 5 fr)).alloc (.cells ds 5 fr')).alloc (.cells #[.slice (some ⟨W.heap.size,0,none⟩) n n,.slice (some ⟨W.heap.size+1,0,none⟩) m m] 23)) (W.heap.size+3) 1 s.A s.n (s.l.map bv)):=by
 constructor
 · have:=Rd.made ((W.alloc (.cells cs 5 fr)).alloc (.cells ds 5 fr')) 23 1 2 #[.slice (some ⟨W.heap.size,0,none⟩) n n,.slice (some ⟨W.heap.size+1,0,none⟩) m m] rfl
   simp only [World.size_alloc] at this
   exact this
 · intro s hs
   simp at hs
   rcases hs with rfl | rfl
   · have h1:=rd_mark W 5 cs fr n (by rw [←Array.length_toList,hcs];simp [hn])
     rw [hcs] at h1
     exact ((h1.alloc (by simp) (.cells ds 5 fr')).alloc (by simp) _).mono (by omega)
   · have h1:=rd_mark (W.alloc (.cells cs 5 fr)) 5 ds fr' m (by rw [←Array.length_toList,hds];simp [hm])
     rw [hds,World.size_alloc] at h1
     exact (h1.alloc (by simp) _).mono (by omega)
end Go.Proofs.YtipaccakmndkgaaGreatDoor
namespace Go.Proofs.YtipaccakmndkgaaGreatDoor
open Go.RowKit
set_option linter.unusedVariables false
set_option linter.unusedSimpArgs false
theorem pairsL_set0 (C:List (Nat×Nat)) (k r:Nat) (hk:k < C.length):(pairsL C).set (k*2) (.int .i64 (r:Int))=pairsL (C.set k (r,posK C k)):=by
 apply List.ext_getElem?
 intro j
 have hl:=pairsL_len C
 have hl2:=pairsL_len (C.set k (r,posK C k))
 rw [List.length_set] at hl2
 rw [List.getElem?_set]
 by_cases hj:j < C.length*2
 · have hi:j / 2 < C.length:=by omega
   obtain ⟨p0,p1⟩:=pairsL_get C (j / 2) hi
   obtain ⟨q0,q1⟩:=pairsL_get (C.set k (r,posK C k)) (j / 2) (by rw [List.length_set];exact hi)
   have er:rowK (C.set k (r,posK C k)) (j / 2)=if k=j / 2 then r else rowK C (j / 2):=by
    unfold rowK
    rw [List.getD_eq_getElem?_getD,List.getElem?_set,List.getD_eq_getElem?_getD]
    by_cases c:k=j / 2
    · simp [c,hi]
    · simp [c]
   have ep:posK (C.set k (r,posK C k)) (j / 2)=posK C (j / 2):=by
    unfold posK
    rw [List.getD_eq_getElem?_getD,List.getElem?_set,List.getD_eq_getElem?_getD,List.getD_eq_getElem?_getD]
    by_cases c:k=j / 2
    · subst c
      simp [hi]
    · simp [c]
   rw [er] at q0
   rw [ep] at q1
   by_cases ho:j % 2=0
   · have e:j / 2*2=j:=by omega
     rw [e] at p0 q0
     rw [q0]
     by_cases c:k*2=j
     · rw [if_pos c,if_pos (by omega),if_pos (by omega)]
     · rw [if_neg c,p0,if_neg (by omega)]
   · have e:j / 2*2+1=j:=by omega
     rw [e] at p1 q1
     rw [q1,if_neg (by omega),p1]
 · rw [if_neg (by omega),List.getElem?_eq_none (by omega),List.getElem?_eq_none (by omega)]
theorem pairsL_set1 (C:List (Nat×Nat)) (k p:Nat) (hk:k < C.length):(pairsL C).set (k*2+1) (.int .i64 (p:Int))=pairsL (C.set k (rowK C k,p)):=by
 apply List.ext_getElem?
 intro j
 have hl:=pairsL_len C
 have hl2:=pairsL_len (C.set k (rowK C k,p))
 rw [List.length_set] at hl2
 rw [List.getElem?_set]
 by_cases hj:j < C.length*2
 · have hi:j / 2 < C.length:=by omega
   obtain ⟨p0,p1⟩:=pairsL_get C (j / 2) hi
   obtain ⟨q0,q1⟩:=pairsL_get (C.set k (rowK C k,p)) (j / 2) (by rw [List.length_set];exact hi)
   have er:rowK (C.set k (rowK C k,p)) (j / 2)=rowK C (j / 2):=by
    unfold rowK
    rw [List.getD_eq_getElem?_getD,List.getElem?_set,List.getD_eq_getElem?_getD,List.getD_eq_getElem?_getD]
    by_cases c:k=j / 2
    · subst c
      simp [hi]
    · simp [c]
   have ep:posK (C.set k (rowK C k,p)) (j / 2)=if k=j / 2 then p else posK C (j / 2):=by
    unfold posK
    rw [List.getD_eq_getElem?_getD,List.getElem?_set,List.getD_eq_getElem?_getD]
    by_cases c:k=j / 2
    · simp [c,hi]
    · simp [c]
   rw [er] at q0
   rw [ep] at q1
   by_cases ho:j % 2=0
   · have e:j / 2*2=j:=by omega
     rw [e] at p0 q0
     rw [q0,if_neg (by omega),p0]
   · have e:j / 2*2+1=j:=by omega
     rw [e] at p1 q1
     rw [q1]
     by_cases c:k*2+1=j
     · rw [if_pos c,if_pos (by omega),if_pos (by omega)]
     · rw [if_neg c,p1,if_neg (by omega)]
 · rw [if_neg (by omega),List.getElem?_eq_none (by omega),List.getElem?_eq_none (by omega)]
theorem wrap64_id {z:Int} (h0:-9223372036854775808≤z) (h1:z≤9223372036854775807):wrap64 z=z:=by unfold wrap64;omega
theorem own_heap {w w':World} {B n sz:Nat} {e:TypeId} {v:Value} {xs:List Value} (h:w.ownsRow B e sz v n xs) (k:w'.heap=w.heap):w'.ownsRow B e sz v n xs:=own_same h fun b cs _ hb=>by unfold Bk at hb⊢;rw [k];exact hb
theorem pair_self (C:List (Nat×Nat)) (k:Nat) (hk:k < C.length):C.set k (rowK C k,posK C k)=C:=by
 have e:(rowK C k,posK C k)=C[k]:=by
  unfold rowK posK
  rw [List.getD_eq_getElem?_getD,List.getElem?_eq_getElem hk]
  rfl
 rw [e,List.set_getElem_self]
def mvR (a t r:Nat):Nat:=if r=a then t else inR (outR r a) t
set_option maxRecDepth 100000 in
theorem RowInC_any (B gl n c gx z k:Nat) (C:List (Nat×Nat)) (w:World) (h:w.ownsRow B 159 2 (.slice (some ⟨gl,0,none⟩) n c) n (pairsL C)) (hk:k < C.length) (hx:Bk w gx 3 #[.int .i64 (z:Int)]) (hC:rowK C k≤1000000000000):
 Calls Tryz.prog 138 #[.pointer (some ⟨gl,k*2,none⟩),.pointer (some ⟨gx,0,none⟩)] w fun e w'=>e=.returned (.tuple #[])∧w'.ownsRow B 159 2 (.slice (some ⟨gl,0,none⟩) n c) n (pairsL (C.set k (inR (rowK C k) z,posK C k)))∧Keep (fun b=>b=gl) w w':=by
 obtain ⟨p0,p1⟩:=pairsL_get C k hk
 have hn:C.length=n:=by have h1:=h.1;rw [pairsL_len] at h1;omega
 have d0:=(World.ownsRow.cellAt h (k*2) (by omega)).trans p0
 have d1:=(World.ownsRow.cellAt h (k*2+1) (by omega)).trans p1
 have x0:w.cell? ⟨gx,0,none⟩=some (.int .i64 (z:Int)):=(hx.cell 0).trans rfl
 obtain ⟨cur,hcur⟩:=own_bk h
 have fr:=hcur.frozen (k*2)
 have hgl:=hcur.lt
 have hgx:=hx.lt
 have hself:=pair_self C k hk
 have hset:=fun v=>pairsL_set0 C k v hk
 obtain ⟨r,hr⟩:∃r,rowK C k=r:=⟨_,rfl⟩
 obtain ⟨p,hp⟩:∃p,posK C k=p:=⟨_,rfl⟩
 rw [hr] at d0 hself hC
 rw [hp] at d1 hself hset
 rw [hr,hp]
 have H:=Lib.hid h
 have Hself:=Lib.hid hself
 have Hset:=Lib.hid hset
 clear h hk hx p0 p1 hcur hself hset hn hr hp
 by_cases hz:z≤r
 · have z1:decide ((r:Int)≥(z:Int))=true:=decide_eq_true (by omega)
   have e1:wrap64 ((r:Int)+1)=((r+1:Nat):Int):=by unfold wrap64;omega
   have ho:=(World.ownsRow.stored H.out (k*2) (.int .i64 ((r+1:Nat):Int))).1
   rw [Hset.out] at ho
   have Ho:=Lib.hid ho
   clear ho
   go_enter Tryz.func138,Tryz.ntmps138
   go_wp2_with fail
   go_quiet (fail)
   go_wp2_with fail
   go_end0
   refine ⟨rfl,?_,Keep.setCell (F:=fun b=>b=gl) ((Keep.refl _ _).drewN _) (p:=⟨gl,k*2,none⟩) (.inl rfl) _⟩
   have e2:inR (r) z=r+1:=by unfold inR;rw [if_pos (by omega)]
   rw [e2]
   exact Ho.out
 · have z1:decide ((r:Int)≥(z:Int))=false:=decide_eq_false (by omega)
   go_enter Tryz.func138,Tryz.ntmps138
   go_wp2_with fail
   go_quiet (fail)
   go_wp2_with fail
   go_end0
   refine ⟨rfl,?_,(Keep.refl _ _).drewN _⟩
   have e2:inR (r) z=r:=by unfold inR;rw [if_neg (by omega)]
   rw [e2,Hself.out]
   exact H.out
set_option maxRecDepth 100000 in
theorem PosInC_any (B gl n c gx z k:Nat) (C:List (Nat×Nat)) (w:World) (h:w.ownsRow B 159 2 (.slice (some ⟨gl,0,none⟩) n c) n (pairsL C)) (hk:k < C.length) (hx:Bk w gx 3 #[.int .i64 (z:Int)]) (hC:posK C k≤1000000000000):
 Calls Tryz.prog 139 #[.pointer (some ⟨gl,k*2,none⟩),.pointer (some ⟨gx,0,none⟩)] w fun e w'=>e=.returned (.tuple #[])∧w'.ownsRow B 159 2 (.slice (some ⟨gl,0,none⟩) n c) n (pairsL (C.set k (rowK C k,inR (posK C k) z)))∧Keep (fun b=>b=gl) w w':=by
 obtain ⟨p0,p1⟩:=pairsL_get C k hk
 have hn:C.length=n:=by have h1:=h.1;rw [pairsL_len] at h1;omega
 have d0:=(World.ownsRow.cellAt h (k*2) (by omega)).trans p0
 have d1:=(World.ownsRow.cellAt h (k*2+1) (by omega)).trans p1
 have x0:w.cell? ⟨gx,0,none⟩=some (.int .i64 (z:Int)):=(hx.cell 0).trans rfl
 obtain ⟨cur,hcur⟩:=own_bk h
 have fr:=hcur.frozen (k*2+1)
 have hgl:=hcur.lt
 have hgx:=hx.lt
 have hself:=pair_self C k hk
 have hset:=fun v=>pairsL_set1 C k v hk
 obtain ⟨r,hr⟩:∃r,rowK C k=r:=⟨_,rfl⟩
 obtain ⟨p,hp⟩:∃p,posK C k=p:=⟨_,rfl⟩
 rw [hr] at d0 hself hset
 rw [hp] at d1 hself hC
 rw [hr,hp]
 have H:=Lib.hid h
 have Hself:=Lib.hid hself
 have Hset:=Lib.hid hset
 clear h hk hx p0 p1 hcur hself hset hn hr hp
 by_cases hz:z≤p
 · have z1:decide ((p:Int)≥(z:Int))=true:=decide_eq_true (by omega)
   have e1:wrap64 ((p:Int)+1)=((p+1:Nat):Int):=by unfold wrap64;omega
   have ho:=(World.ownsRow.stored H.out (k*2+1) (.int .i64 ((p+1:Nat):Int))).1
   rw [Hset.out] at ho
   have Ho:=Lib.hid ho
   clear ho
   go_enter Tryz.func139,Tryz.ntmps139
   go_wp2_with fail
   go_quiet (fail)
   go_wp2_with fail
   go_end0
   refine ⟨rfl,?_,Keep.setCell (F:=fun b=>b=gl) ((Keep.refl _ _).drewN _) (p:=⟨gl,k*2+1,none⟩) (.inl rfl) _⟩
   have e2:inR (p) z=p+1:=by unfold inR;rw [if_pos (by omega)]
   rw [e2]
   exact Ho.out
 · have z1:decide ((p:Int)≥(z:Int))=false:=decide_eq_false (by omega)
   go_enter Tryz.func139,Tryz.ntmps139
   go_wp2_with fail
   go_quiet (fail)
   go_wp2_with fail
   go_end0
   refine ⟨rfl,?_,(Keep.refl _ _).drewN _⟩
   have e2:inR (p) z=p:=by unfold inR;rw [if_neg (by omega)]
   rw [e2,Hself.out]
   exact H.out
set_option maxRecDepth 100000 in
set_option maxHeartbeats 1000000 in
theorem EachRowIn_any (B gp ga gx0 z0:Nat) (vl vo vt vf:Value) (R P:Nat) (ks:List Nat) (C:List (Nat×Nat)) (tk:List Bool) (fr:List Nat) (w:World) (h:PermAt w B gp ga vl vo vt vf R P ks C tk fr) (hnd:ks.Nodup) (hl:ks.length≤1000000) (hx0:Bk w gx0 3 #[.int .i64 (z0:Int)]) (hgx0:∀b,vl.ownBlock=some b→b≠gx0) (hC:∀k,k∈ks→rowK C k≤1000000000000∧posK C k≤1000000000000):
 Calls Tryz.prog 137 #[.pointer (some ⟨gp,0,none⟩),.func (.func 138) #[] #[.pointer (some ⟨gx0,0,none⟩)]] w fun e w'=>e=.returned (.tuple #[])∧Keep (fun b=>vl.ownBlock=some b) w w'∧∃C',C'.length=C.length∧(∀k,k∈ks→(rowK C' k,posK C' k)=(inR (rowK C k) z0,posK C k))∧PermAt w' B gp ga vl vo vt vf R P ks C' tk fr:=by
 obtain ⟨A2,c2,hvo,_,_⟩:=own_shape h.orow
 have c2':w.cell? ⟨gp,2,none⟩=some (.slice A2 ks.length c2):=(h.blk.cell 2).trans (by rw [hvo];rfl)
 have hgp:=h.blk.lt
 obtain ⟨n,hn⟩:∃n,ks.length=n:=⟨_,rfl⟩
 rw [hn] at c2' hl
 have H:=Lib.hid h
 have Hn:=Lib.hid hn
 have Hvo:=Lib.hid hvo
 have Hnd:=Lib.hid hnd
 have HC:=Lib.hid hC
 clear h hn hvo hnd hC
 go_enter Tryz.func137,Tryz.ntmps137
 go_wp2_with fail
 go_loopw [11] (fun i wr=>∃(j:Nat) (Cj:List (Nat×Nat)),j≤n∧i=.int .i64 (j:Int)∧Cj.length=C.length∧(∀k,k∈ks.take j→(rowK Cj k,posK Cj k)=(inR (rowK C k) z0,posK C k))∧(∀k,k∈ks.drop j→(rowK Cj k,posK Cj k)=(rowK C k,posK C k))∧PermAt wr B gp ga vl vo vt vf R P ks Cj tk fr∧Keep (fun b=>vl.ownBlock=some b) w wr) (fun i _=>n -(intOf i).toNat)
 case atStart=>exact ⟨0,C,Nat.zero_le _,rfl,rfl,fun k hk=>by simp at hk,fun k _=>rfl,H.out,Keep.refl _ _⟩
 case round=>
  obtain ⟨j,Cj,hj,rfl,hlen,hd1,hd2,hp,hk⟩:=hrel
  by_cases hlt:j < n
  · have hjl:j < ks.length:=by rw [Hn.out];exact hlt
    obtain ⟨k,hkj⟩:∃k,ks[j]?=some k:=⟨_,List.getElem?_eq_getElem hjl⟩
    have hkm:=List.mem_of_getElem? hkj
    have hkC:k < Cj.length:=hp.lt k hkm
    have ho2:=hp.orow
    rw [Hvo.out] at ho2
    obtain ⟨g2,k2,e2,_,hg2⟩:=World.ownsRow.form ho2 (by omega)
    injection e2 with e2a _ e2c
    subst e2a e2c
    have hlr:=hp.lrow
    obtain ⟨g1,k1,e1,_,hg1⟩:=World.ownsRow.form hlr (by omega)
    rw [e1] at hlr
    have d2:wr.cell? ⟨g2,j,none⟩=some (.int .i64 (k:Int)):=(World.ownsRow.cellAt ho2 j (by omega)).trans (by rw [List.getElem?_map,hkj];rfl)
    have d1:wr.cell? ⟨gp,1,none⟩=some (.slice (some ⟨g1,0,none⟩) Cj.length k1):=(hp.blk.cell 1).trans (by rw [e1];rfl)
    have hgpr:=hp.blk.lt
    have hsz:=hk.size
    have hkd:k∈ks.drop j:=by
        rw [List.drop_eq_getElem_cons hjl,List.getElem_eq_getElem?_get]
        simp [hkj]
    have hCk:(rowK Cj k,posK Cj k)=(rowK C k,posK C k):=hd2 k hkd
    injection hCk with hCr hCp
    have hxr:=fun (b:Nat) (e:Value.ownBlock vl=some b)=>(World.ownsRow.lt hp.lrow b e).2
    obtain ⟨N,hN⟩:∃N,Cj.length=N:=⟨_,rfl⟩
    rw [hN] at hlr d1 hkC
    have hxr0:=hk.bk hx0 (fun e=>hgx0 _ e rfl)
    have hkI:(k:Int) < (N:Int):=by omega
    have Hp:=Lib.hid hp
    have Hk:=Lib.hid hk
    have Hlr:=Lib.hid hlr
    have Hkj:=Lib.hid hkj
    have Hd1:=Lib.hid hd1
    have Hd2:=Lib.hid hd2
    have HN:=Lib.hid hN
    have Hlen:=Lib.hid hlen
    have He1:=Lib.hid e1
    have HCr:=Lib.hid hCr
    have HCp:=Lib.hid hCp
    have Hkm:=Lib.hid hkm
    clear hp hk hlr hkj hd1 hd2 hN hlen e1 hCr hCp hkm hkd ho2 hxr
    go_wp2_with fail
    refine (RowInC_any B g1 N k1 gx0 z0 k Cj wr Hlr.out (by rw [HN.out];exact hkC) hxr0 (by rw [HCr.out];exact (HC.out k Hkm.out).1)).mono ?_
    rintro e w1 ⟨rfl,hl1,hk1⟩
    have hC':PermAt w1 B gp ga vl vo vt vf R P ks (Cj.set k (inR (rowK Cj k) z0,posK Cj k)) tk fr:=by
        have hp:=Hp.out
        have hne:∀b t cs,t≠159→Bk wr b t cs→b≠g1:=fun b t cs ht hb e=>by
         subst e
         obtain ⟨cu,hcu⟩:=own_bk Hlr.out
         exact ht (bk_inj hb hcu).1
        refine ⟨hk1.bk hp.blk (hne _ _ _ (by decide) hp.blk),?_,own_same hp.orow fun b cs _ hb=>hk1.bk hb (hne _ _ _ (by decide) hb),hk1.bk hp.ar (hne _ _ _ (by decide) hp.ar),own_same hp.trow fun b cs _ hb=>hk1.bk hb (hne _ _ _ (by decide) hb),own_same hp.frow fun b cs _ hb=>hk1.bk hb (hne _ _ _ (by decide) hb),hp.apart,fun x hx=>by rw [List.length_set];exact hp.lt x hx,hp.lo⟩
        rw [List.length_set,HN.out,He1.out,HN.out]
        exact hl1
    have hk':Keep (fun b=>vl.ownBlock=some b) w w1:=Hk.out.trans (hk1.mono fun b _ e=>by rw [He1.out,show b=g1 from e];rfl)
    have hget:∀x,(rowK (Cj.set k (inR (rowK Cj k) z0,posK Cj k)) x,posK (Cj.set k (inR (rowK Cj k) z0,posK Cj k)) x)=if x=k then (inR (rowK Cj k) z0,posK Cj k) else (rowK Cj x,posK Cj x):=fun x=>by
        unfold rowK posK
        rw [List.getD_eq_getElem?_getD,List.getElem?_set]
        by_cases cx:k=x
        · subst cx
          rw [if_pos rfl,if_pos rfl,if_pos (by rw [HN.out];exact hkC)]
          rfl
        · rw [if_neg cx,if_neg (fun e=>cx e.symm),List.getD_eq_getElem?_getD]
    have hrel:∃(j':Nat) (Cj':List (Nat×Nat)),j'≤n∧Value.int .i64 ((j+1:Nat):Int)=.int .i64 (j':Int)∧Cj'.length=C.length∧(∀k,k∈ks.take j'→(rowK Cj' k,posK Cj' k)=(inR (rowK C k) z0,posK C k))∧(∀k,k∈ks.drop j'→(rowK Cj' k,posK Cj' k)=(rowK C k,posK C k))∧PermAt w1 B gp ga vl vo vt vf R P ks Cj' tk fr∧Keep (fun b=>vl.ownBlock=some b) w w1:=by
        refine ⟨j+1,_,by omega,rfl,by rw [List.length_set];exact Hlen.out,fun x hx=>?_,fun x hx=>?_,hC',hk'⟩
        · rw [hget]
          by_cases cx:x=k
          · subst cx
            rw [if_pos rfl,HCr.out,HCp.out]
          · rw [if_neg cx]
            refine Hd1.out x ?_
            rw [List.take_add_one,Hkj.out] at hx
            simp at hx
            rcases hx with hx | hx
            · exact hx
            · exact absurd hx cx
        · rw [hget]
          have hxk:x≠k:=fun e=>by
           subst e
           have hd:ks.drop j=x::ks.drop (j+1):=by
              have hjl:j < ks.length:=by rw [Hn.out];exact hlt
              rw [List.drop_eq_getElem_cons hjl]
              have h9:=Hkj.out
              rw [List.getElem?_eq_getElem hjl] at h9
              injection h9 with h9
              rw [h9]
           have hnd:=(List.drop_sublist j ks).nodup Hnd.out
           rw [hd,List.nodup_cons] at hnd
           exact hnd.1 hx
          rw [if_neg hxk]
          exact Hd2.out x (List.mem_of_mem_drop (by rw [←List.drop_drop] at hx;exact hx:x∈(ks.drop j).drop 1))
    have Hrel:=Lib.hid hrel
    clear hC' hk' hget hrel hk1 hl1 d1 d2
    go_wp2_with fail
    go_roundw
    case rel=>exact Hrel.out
    case measure=>simp [intOf];omega
  · obtain rfl:j=n:=by omega
    have Hp:=Lib.hid hp
    have Hk:=Lib.hid hk
    have Hd1:=Lib.hid hd1
    clear hp hk hd1 hd2
    go_wp2_with fail
    go_end0
    refine ⟨rfl,Hk.out,Cj,hlen,fun k hk=>Hd1.out k ?_,Hp.out⟩
    rw [List.take_of_length_le (by rw [Hn.out];exact Nat.le_refl _)]
    exact hk
set_option maxRecDepth 100000 in
set_option maxHeartbeats 1000000 in
theorem EachPosIn_any (B gp ga gx0 z0:Nat) (vl vo vt vf:Value) (R P:Nat) (ks:List Nat) (C:List (Nat×Nat)) (tk:List Bool) (fr:List Nat) (w:World) (h:PermAt w B gp ga vl vo vt vf R P ks C tk fr) (hnd:ks.Nodup) (hl:ks.length≤1000000) (hx0:Bk w gx0 3 #[.int .i64 (z0:Int)]) (hgx0:∀b,vl.ownBlock=some b→b≠gx0) (hC:∀k,k∈ks→rowK C k≤1000000000000∧posK C k≤1000000000000):
 Calls Tryz.prog 137 #[.pointer (some ⟨gp,0,none⟩),.func (.func 139) #[] #[.pointer (some ⟨gx0,0,none⟩)]] w fun e w'=>e=.returned (.tuple #[])∧Keep (fun b=>vl.ownBlock=some b) w w'∧∃C',C'.length=C.length∧(∀k,k∈ks→(rowK C' k,posK C' k)=(rowK C k,inR (posK C k) z0))∧PermAt w' B gp ga vl vo vt vf R P ks C' tk fr:=by
 obtain ⟨A2,c2,hvo,_,_⟩:=own_shape h.orow
 have c2':w.cell? ⟨gp,2,none⟩=some (.slice A2 ks.length c2):=(h.blk.cell 2).trans (by rw [hvo];rfl)
 have hgp:=h.blk.lt
 obtain ⟨n,hn⟩:∃n,ks.length=n:=⟨_,rfl⟩
 rw [hn] at c2' hl
 have H:=Lib.hid h
 have Hn:=Lib.hid hn
 have Hvo:=Lib.hid hvo
 have Hnd:=Lib.hid hnd
 have HC:=Lib.hid hC
 clear h hn hvo hnd hC
 go_enter Tryz.func137,Tryz.ntmps137
 go_wp2_with fail
 go_loopw [11] (fun i wr=>∃(j:Nat) (Cj:List (Nat×Nat)),j≤n∧i=.int .i64 (j:Int)∧Cj.length=C.length∧(∀k,k∈ks.take j→(rowK Cj k,posK Cj k)=(rowK C k,inR (posK C k) z0))∧(∀k,k∈ks.drop j→(rowK Cj k,posK Cj k)=(rowK C k,posK C k))∧PermAt wr B gp ga vl vo vt vf R P ks Cj tk fr∧Keep (fun b=>vl.ownBlock=some b) w wr) (fun i _=>n -(intOf i).toNat)
 case atStart=>exact ⟨0,C,Nat.zero_le _,rfl,rfl,fun k hk=>by simp at hk,fun k _=>rfl,H.out,Keep.refl _ _⟩
 case round=>
  obtain ⟨j,Cj,hj,rfl,hlen,hd1,hd2,hp,hk⟩:=hrel
  by_cases hlt:j < n
  · have hjl:j < ks.length:=by rw [Hn.out];exact hlt
    obtain ⟨k,hkj⟩:∃k,ks[j]?=some k:=⟨_,List.getElem?_eq_getElem hjl⟩
    have hkm:=List.mem_of_getElem? hkj
    have hkC:k < Cj.length:=hp.lt k hkm
    have ho2:=hp.orow
    rw [Hvo.out] at ho2
    obtain ⟨g2,k2,e2,_,hg2⟩:=World.ownsRow.form ho2 (by omega)
    injection e2 with e2a _ e2c
    subst e2a e2c
    have hlr:=hp.lrow
    obtain ⟨g1,k1,e1,_,hg1⟩:=World.ownsRow.form hlr (by omega)
    rw [e1] at hlr
    have d2:wr.cell? ⟨g2,j,none⟩=some (.int .i64 (k:Int)):=(World.ownsRow.cellAt ho2 j (by omega)).trans (by rw [List.getElem?_map,hkj];rfl)
    have d1:wr.cell? ⟨gp,1,none⟩=some (.slice (some ⟨g1,0,none⟩) Cj.length k1):=(hp.blk.cell 1).trans (by rw [e1];rfl)
    have hgpr:=hp.blk.lt
    have hsz:=hk.size
    have hkd:k∈ks.drop j:=by
        rw [List.drop_eq_getElem_cons hjl,List.getElem_eq_getElem?_get]
        simp [hkj]
    have hCk:(rowK Cj k,posK Cj k)=(rowK C k,posK C k):=hd2 k hkd
    injection hCk with hCr hCp
    have hxr:=fun (b:Nat) (e:Value.ownBlock vl=some b)=>(World.ownsRow.lt hp.lrow b e).2
    obtain ⟨N,hN⟩:∃N,Cj.length=N:=⟨_,rfl⟩
    rw [hN] at hlr d1 hkC
    have hxr0:=hk.bk hx0 (fun e=>hgx0 _ e rfl)
    have hkI:(k:Int) < (N:Int):=by omega
    have Hp:=Lib.hid hp
    have Hk:=Lib.hid hk
    have Hlr:=Lib.hid hlr
    have Hkj:=Lib.hid hkj
    have Hd1:=Lib.hid hd1
    have Hd2:=Lib.hid hd2
    have HN:=Lib.hid hN
    have Hlen:=Lib.hid hlen
    have He1:=Lib.hid e1
    have HCr:=Lib.hid hCr
    have HCp:=Lib.hid hCp
    have Hkm:=Lib.hid hkm
    clear hp hk hlr hkj hd1 hd2 hN hlen e1 hCr hCp hkm hkd ho2 hxr
    go_wp2_with fail
    refine (PosInC_any B g1 N k1 gx0 z0 k Cj wr Hlr.out (by rw [HN.out];exact hkC) hxr0 (by rw [HCp.out];exact (HC.out k Hkm.out).2)).mono ?_
    rintro e w1 ⟨rfl,hl1,hk1⟩
    have hC':PermAt w1 B gp ga vl vo vt vf R P ks (Cj.set k (rowK Cj k,inR (posK Cj k) z0)) tk fr:=by
        have hp:=Hp.out
        have hne:∀b t cs,t≠159→Bk wr b t cs→b≠g1:=fun b t cs ht hb e=>by
         subst e
         obtain ⟨cu,hcu⟩:=own_bk Hlr.out
         exact ht (bk_inj hb hcu).1
        refine ⟨hk1.bk hp.blk (hne _ _ _ (by decide) hp.blk),?_,own_same hp.orow fun b cs _ hb=>hk1.bk hb (hne _ _ _ (by decide) hb),hk1.bk hp.ar (hne _ _ _ (by decide) hp.ar),own_same hp.trow fun b cs _ hb=>hk1.bk hb (hne _ _ _ (by decide) hb),own_same hp.frow fun b cs _ hb=>hk1.bk hb (hne _ _ _ (by decide) hb),hp.apart,fun x hx=>by rw [List.length_set];exact hp.lt x hx,hp.lo⟩
        rw [List.length_set,HN.out,He1.out,HN.out]
        exact hl1
    have hk':Keep (fun b=>vl.ownBlock=some b) w w1:=Hk.out.trans (hk1.mono fun b _ e=>by rw [He1.out,show b=g1 from e];rfl)
    have hget:∀x,(rowK (Cj.set k (rowK Cj k,inR (posK Cj k) z0)) x,posK (Cj.set k (rowK Cj k,inR (posK Cj k) z0)) x)=if x=k then (rowK Cj k,inR (posK Cj k) z0) else (rowK Cj x,posK Cj x):=fun x=>by
        unfold rowK posK
        rw [List.getD_eq_getElem?_getD,List.getElem?_set]
        by_cases cx:k=x
        · subst cx
          rw [if_pos rfl,if_pos rfl,if_pos (by rw [HN.out];exact hkC)]
          rfl
        · rw [if_neg cx,if_neg (fun e=>cx e.symm),List.getD_eq_getElem?_getD]
    have hrel:∃(j':Nat) (Cj':List (Nat×Nat)),j'≤n∧Value.int .i64 ((j+1:Nat):Int)=.int .i64 (j':Int)∧Cj'.length=C.length∧(∀k,k∈ks.take j'→(rowK Cj' k,posK Cj' k)=(rowK C k,inR (posK C k) z0))∧(∀k,k∈ks.drop j'→(rowK Cj' k,posK Cj' k)=(rowK C k,posK C k))∧PermAt w1 B gp ga vl vo vt vf R P ks Cj' tk fr∧Keep (fun b=>vl.ownBlock=some b) w w1:=by
        refine ⟨j+1,_,by omega,rfl,by rw [List.length_set];exact Hlen.out,fun x hx=>?_,fun x hx=>?_,hC',hk'⟩
        · rw [hget]
          by_cases cx:x=k
          · subst cx
            rw [if_pos rfl,HCr.out,HCp.out]
          · rw [if_neg cx]
            refine Hd1.out x ?_
            rw [List.take_add_one,Hkj.out] at hx
            simp at hx
            rcases hx with hx | hx
            · exact hx
            · exact absurd hx cx
        · rw [hget]
          have hxk:x≠k:=fun e=>by
           subst e
           have hd:ks.drop j=x::ks.drop (j+1):=by
              have hjl:j < ks.length:=by rw [Hn.out];exact hlt
              rw [List.drop_eq_getElem_cons hjl]
              have h9:=Hkj.out
              rw [List.getElem?_eq_getElem hjl] at h9
              injection h9 with h9
              rw [h9]
           have hnd:=(List.drop_sublist j ks).nodup Hnd.out
           rw [hd,List.nodup_cons] at hnd
           exact hnd.1 hx
          rw [if_neg hxk]
          exact Hd2.out x (List.mem_of_mem_drop (by rw [←List.drop_drop] at hx;exact hx:x∈(ks.drop j).drop 1))
    have Hrel:=Lib.hid hrel
    clear hC' hk' hget hrel hk1 hl1 d1 d2
    go_wp2_with fail
    go_roundw
    case rel=>exact Hrel.out
    case measure=>simp [intOf];omega
  · obtain rfl:j=n:=by omega
    have Hp:=Lib.hid hp
    have Hk:=Lib.hid hk
    have Hd1:=Lib.hid hd1
    clear hp hk hd1 hd2
    go_wp2_with fail
    go_end0
    refine ⟨rfl,Hk.out,Cj,hlen,fun k hk=>Hd1.out k ?_,Hp.out⟩
    rw [List.take_of_length_le (by rw [Hn.out];exact Nat.le_refl _)]
    exact hk
end Go.Proofs.YtipaccakmndkgaaGreatDoor
