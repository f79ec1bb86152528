/- Lemmas of the walk. Conditions: each its own. -/
import Derived.Test.YthldmddkfbijhaaGreatDoorPsr18
import Derived.Test.YthldmddkfbijhaaGreatDoorPsr19
import Derived.Test.YthldmddkfbijhaaGreatDoorPsr20
import Derived.Test.YthldmddkfbijhaaGreatDoorProg
import Derived.Test.YthldmddkfbijhaaGreatDoorShl
import Derived.Test.YthldmddkfbijhaaGreatDoorSht
set_option linter.all false
set_option maxRecDepth 100000
set_option maxHeartbeats 4000000
namespace Go.Proofs.YthldmddkfbijhaaGreatDoor
section
def Pq (l:List Nat) (b:Bool):List Nat->Nat->Bool
 | [],_=>b
 | s::q,p=>decide (aN l p < (s:Int))||(decide (aN l p=(s:Int))&&Pq l b q (p+1))
def tK (l:List Nat):List Nat->Nat->Bool
 | [],_=>true
 | s::q,p=>decide (aN l p=(s:Int))&&tK l q (p+1)
theorem aBQ (l:List Nat) (b:Bool) (s:Nat) (q:List Nat) (p:Nat):Pq l b (s::q) p=(decide (aN l p < (s:Int))||(decide (aN l p=(s:Int))&&Pq l b q (p+1))):=rfl
theorem aAE (l:List Nat) (s:Nat) (q:List Nat) (p:Nat):tK l (s::q) p=(decide (aN l p=(s:Int))&&tK l q (p+1)):=rfl
theorem aBP {l:List Nat} {b:Bool} (q:List Nat):∀ {p p':Nat},sufLt l p' p->Pq l b q p=true->Pq l b q p'=true:=by
 induction q with
 | nil=>intro p p' _ h;exact h
 | cons s q ih=>
   intro p p' hlt h;unfold Pq at h⊢;simp only [Bool.or_eq_true,zBd,zCa] at h⊢;rcases (iK l p' p).1 hlt with h1 |⟨h1,h2⟩;rcases h with h |⟨h,_⟩;exact .inl oM;exact .inl oM;rcases h with h |⟨h,h3⟩;exact .inl oM;exact .inr ⟨by omega,ih h2 h3⟩
def Nq (l:List Nat) (b:Bool) (q:List Nat):Nat:=(List.range l.length).countP (Pq l b q)
theorem aKt (l:List Nat) (b:Bool) (q:List Nat):Nq l b q<=l.length:=by
 unfold Nq;have:=zBh (p:=Pq l b q) (l:=List.range l.length);simpa using this
theorem aDW {l rs:List Nat} (h:IsSuf l rs) (b:Bool) (q:List Nat) (s:Nat):((aE l rs).take (Nq l b q)).count s=(List.range l.length).countP (fun p=>decide (bL l p=s)&&Pq l b q p):=by
 have e1:Nq l b q=rs.countP (Pq l b q):=(h.count _).symm;rw [e1,aE,<-List.map_take,tF h.sorted (fun x y hxy hy=>aBP q hxy hy),<-h.count,List.count_eq_countP,List.countP_map,List.countP_filter];refine List.countP_congr fun p _=>?_;simp [Function.comp,and_comm]
theorem aFy {l rs:List Nat} {m:Nat} (h:IsSuf l rs) (he:EndOk l m) (b:Bool) (q:List Nat) (s:Nat) (hs:0 < s):cJ (aE l rs) s (Nq l b q)=Nq l b (s::q):=by
 have hlen:=he.len;unfold cJ;rw [aDW h];have e1:(aE l rs).countP (fun x=>decide (x < s))=(List.range (m+1)).countP (fun p=>decide (l.getD p 0 < s)):=by
  rw [aE,List.countP_map,h.count,hlen];refine gN _ _ ?_ fun p hp=>?_
  · show decide (bL l 0 < s)=_;rw [bQ oM,hlen,zBb]
  · show decide (bL l (p+1) < s)=_;rw [bE oM]
 have e2:(List.range l.length).countP (fun p=>decide (bL l p=s)&&Pq l b q p)=(List.range (m+1)).countP (fun p=>decide (l.getD p 0=s)&&Pq l b q (p+1)):=by
  rw [hlen];refine gN _ _ ?_ fun p hp=>?_;show (decide (bL l 0=s)&&_)=(decide (l.getD m 0=s)&&_);rw [bQ oM,hlen,zBb,he.last];have:decide (0=s)=false:=(by simp;omega);rw [this];rfl
  · show (decide (bL l (p+1)=s)&&_)=_;rw [bE oM]
 rw [e1,e2,<-tS]
 · unfold Nq;rw [hlen];refine List.countP_congr fun p hp=>?_;have hp':p < m+1:=(by simpa using hp);rw [aBQ,eZ oM];have f1:decide (((l.getD p 0:Nat):Int) < (s:Int))=decide (l.getD p 0 < s):=(by rw [decide_eq_decide];omega);have f2:decide (((l.getD p 0:Nat):Int)=(s:Int))=decide (l.getD p 0=s):=(by rw [decide_eq_decide];omega);rw [f1,f2]
 intro p _;simp only [zBd,zCa];rintro ⟨h1,h2,_⟩;omega
theorem aLa (l:List Nat):Nq l false []=0/\Nq l true []=l.length:=by
 constructor;unfold Nq;exact List.countP_eq_zero.2 fun _ _ h=>by simp [Pq] at h
 · unfold Nq;have:=(List.countP_eq_length (p:=Pq l true []) (l:=List.range l.length)).2 (fun _ _=>rfl);rw [this];simp
theorem aJc (l:List Nat) (q:List Nat):∀p,Pq l true q p=(Pq l false q p||tK l q p)/\¬(Pq l false q p=true/\tK l q p=true):=by
 induction q with
 | nil=>intro p;exact ⟨rfl,fun h=>by simp [Pq] at h⟩
 | cons s q ih=>
   intro p;obtain ⟨h1,h2⟩:=ih (p+1);rw [aBQ,aBQ,aAE,h1];by_cases h3:aN l p < (s:Int)
   · have:¬aN l p=(s:Int):=oM;simp [h3,this]
   · by_cases h4:aN l p=(s:Int);have e3:decide (aN l p < (s:Int))=false:=(by simpa using h3);have e4:decide (aN l p=(s:Int))=true:=(by simpa using h4);rw [e3,e4,Bool.false_or,Bool.true_and,Bool.false_or,Bool.true_and,Bool.true_and];exact ⟨rfl,h2⟩
     · simp [h3,h4]
def occ (l:List Nat) (q:List Nat):Nat:=(List.range l.length).countP (tK l q)
theorem aFb (l:List Nat) (q:List Nat):Nq l true q=Nq l false q+occ l q:=by
 unfold Nq occ;rw [<-tS _ _ _ fun p _=>(aJc l q p).2];exact List.countP_congr fun p _=>by rw [(aJc l q p).1]
end
section
open Go.RowKit
section
variable {w w' : World} {F G : Nat -> Prop} {gp R P : Nat} {pr : List (Nat × Nat)}
end
theorem PermAt.set_rows {w:World} {B gp ga:Nat} {vl vo vt vf:Value} {R P:Nat} {ks:List Nat} {C:List (Nat×Nat)} {tk:List Bool} {fr:List Nat} (h:PermAt w B gp ga vl vo vt vf R P ks C tk fr) (R':Nat):PermAt (w.setCell ⟨gp,3,none⟩ (.int .i64 (R':Int))) B gp ga vl vo vt vf R' P ks C tk fr:=by
 have k:Keep (fun b=>b=gp) w (w.setCell ⟨gp,3,none⟩ (.int .i64 (R':Int))):=Keep.setCell (F:=fun b=>b=gp) (Keep.refl _ _) (p:=⟨gp,3,none⟩) (.inl rfl) _;exact ⟨h.blk.set 3 _,aA h.lrow fun b cs _ hk=>k.bk hk (Bk.ne hk h.blk dC),aA h.orow fun b cs _ hk=>k.bk hk (Bk.ne hk h.blk dC),k.bk h.ar (Bk.ne h.ar h.blk dC),aA h.trow fun b cs _ hk=>k.bk hk (Bk.ne hk h.blk dC),aA h.frow fun b cs _ hk=>k.bk hk (Bk.ne hk h.blk dC),h.apart,h.lt,h.lo⟩
theorem PermAt.set_places {w:World} {B gp ga:Nat} {vl vo vt vf:Value} {R P:Nat} {ks:List Nat} {C:List (Nat×Nat)} {tk:List Bool} {fr:List Nat} (h:PermAt w B gp ga vl vo vt vf R P ks C tk fr) (P':Nat):PermAt (w.setCell ⟨gp,4,none⟩ (.int .i64 (P':Int))) B gp ga vl vo vt vf R P' ks C tk fr:=by
 have k:Keep (fun b=>b=gp) w (w.setCell ⟨gp,4,none⟩ (.int .i64 (P':Int))):=Keep.setCell (F:=fun b=>b=gp) (Keep.refl _ _) (p:=⟨gp,4,none⟩) (.inl rfl) _;exact ⟨h.blk.set 4 _,aA h.lrow fun b cs _ hk=>k.bk hk (Bk.ne hk h.blk dC),aA h.orow fun b cs _ hk=>k.bk hk (Bk.ne hk h.blk dC),k.bk h.ar (Bk.ne h.ar h.blk dC),aA h.trow fun b cs _ hk=>k.bk hk (Bk.ne hk h.blk dC),aA h.frow fun b cs _ hk=>k.bk hk (Bk.ne hk h.blk dC),h.apart,h.lt,h.lo⟩
theorem aBg {ks:List Nat} {C C':List (Nat×Nat)} {f:Nat×Nat->Nat×Nat} (h:∀k,k∈ks->(aB C' k,aH C' k)=f (aB C k,aH C k)):(ks.map fun k=>(aB C' k,aH C' k))=(ks.map fun k=>(aB C k,aH C k)).map f:=by
 rw [zCh];exact List.map_congr_left fun k hk=>h k hk
theorem aKS {a b z:Nat} (h:a < b):inR a z < inR b z:=by
 unfold inR;split <;> split <;> omega
theorem aAe (F:Nat->Prop) (gp R P z:Nat) (pr:List (Nat×Nat)) (w:World) (h:PermE w F gp R P pr) (hz:z<=R) (hR:R<=100000) (hP:P<=100000):
 Calls Tryz.prog 59 #[gp,(z:Int)] w fun e w'=>e=.returned (.int .i64 0)/\PermE w' F gp (R+1) P (pr.map fun x=>(inR x.1 z,x.2))/\Keep F w w':=by
 obtain ⟨⟨ga,vl,vo,vt,vf,ks,C,tk,fr,hx,rfl⟩,hsort,hbd⟩:=h;have hat:=hx.at_;have c3:w.cell? ⟨gp,3,none⟩=some (.int .i64 (R:Int)):=(hat.blk.cell 3).trans rfl;have f3:=hat.blk.frozen 3;have hgp:=hat.blk.lt;have hzR:¬((z:Int) > (R:Int)):=oM;have hzN:¬R < z:=oM;have hz0:decide ((z:Int) < 0)=false:=by simp
 have e1:wrap64 ((R:Int)+1)=((R+1:Nat):Int):=by rw [dI oM oM];rfl
 obtain ⟨HX,Hsort,Hbd⟩:=hqq3 hx hsort hbd;clear hx hat hsort hbd;go_enter Tryz.func59,Tryz.ntmps59;go_wp2_with fail;go_quiet (fail)
 rename_i nq
 have c3q:∀q,((w.alloc (.cells #[(z:Int)] 3)).drewN q).cell? ⟨gp,3,none⟩=some (.int .i64 (R:Int)):=fun q=>(World.cell?_alloc_lt w _ ⟨gp,3,none⟩ hgp).trans c3;have hmf:∀(fn:Fn) (first cap:Array Value) (w:World),(Instr.makeFunc fn first cap).run Tryz.prog w=.ok (.func fn first cap) w:=fun _ _ _ _=>rfl;go_wp2_with fail;have hatA:=HX.out.at_.below (bR.alloc nL (.cells #[(z:Int)] 3));have hat1:PermAt ((w.alloc (.cells #[(z:Int)] 3)).drewN nq) 0 gp ga vl vo vt vf R P ks C tk fr:=hatA.below (below_drewN bR _);have hat2:=hat1.set_rows (R+1);have hgx1:Bk ((w.alloc (.cells #[(z:Int)] 3)).drewN nq) w.heap.size 3 #[(z:Int)]:=Bk.new w _ _;have hgx2:=hgx1.far (p:=⟨gp,3,none⟩) (fun e=>by have e':w.heap.size=gp:=e;omega) (.int .i64 ((R+1:Nat):Int));have hvl:∀b,vl.ownBlock=some b->b≠w.heap.size:=fun b hb e=>by have:=(HX.out.at_.lrow.lt b hb).2;omega
 have hC:∀k,k∈ks->aB C k<=1000000000000/\aH C k<=1000000000000:=fun k hk=>by have:=Hbd.out (aB C k,aH C k) (zAy.2 ⟨k,hk,rfl⟩);have h1:aB C k < R:=this.1;have h2:aH C k < P:=this.2;omega
 have hkl:=iA HX.out.nd HX.out.at_.lt;refine (aAn 0 gp ga w.heap.size z vl vo vt vf (R+1) P ks C tk fr _ hat2 HX.out.nd (by have:=HX.out.sz;omega) hgx2 hvl hC).mono ?_;rintro e w2 ⟨rfl,hk2,C',hl',hf',hat3⟩;have hkF:Keep F w w2:=(Keep.setCell (F:=F) (((Keep.refl _ _).alloc _).drewN _) (p:=⟨gp,3,none⟩) (.inl HX.out.fp) _).trans (hk2.mono fun b _ hb=>HX.out.fl b hb);have hE:PermE w2 F gp (R+1) P ((ks.map fun k=>(aB C k,aH C k)).map fun x=>(inR x.1 z,x.2)):=by
  refine ⟨⟨ga,vl,vo,vt,vf,ks,C',tk,fr,⟨hat3,HX.out.fp,HX.out.fa,HX.out.fl,HX.out.fo,HX.out.ft,HX.out.ff,HX.out.nd,by rw [hl'];exact HX.out.tkl,HX.out.tkk,HX.out.frn,HX.out.frk,by rw [hl'];exact HX.out.sz⟩,(aBg (f:=fun x=>(inR x.1 z,x.2)) hf').symm⟩,?_,fun x hx=>?_⟩;exact List.pairwise_map.2 (Hsort.out.imp fun {a b} hab=>aKS hab)
  · obtain ⟨y,hy,rfl⟩:=zAy.1 hx;have:=Hbd.out y hy;have h9:∀a,inR a z<=a+1:=fun a=>by unfold inR;split <;> omega
    have h8:=h9 y.1;have h7:=h9 y.2;constructor;show inR y.1 z < _;omega;show y.2 < _;omega
 obtain ⟨HE,HkF⟩:=hqq2 hE hkF;clear hkF hE hat3 hf' hk2 hl' hC hvl hgx2 hgx1 hat2 hat1 hatA;go_wp2_with fail;go_ret;exact ⟨rfl,HE.out,HkF.out⟩
theorem aAg (F:Nat->Prop) (gp R P z:Nat) (pr:List (Nat×Nat)) (w:World) (h:PermE w F gp R P pr) (hz:z<=P) (hR:R<=100000) (hP:P<=100000):
 Calls Tryz.prog 60 #[gp,(z:Int)] w fun e w'=>e=.returned (.int .i64 0)/\PermE w' F gp R (P+1) (pr.map fun x=>(x.1,inR x.2 z))/\Keep F w w':=by
 obtain ⟨⟨ga,vl,vo,vt,vf,ks,C,tk,fr,hx,rfl⟩,hsort,hbd⟩:=h;have hat:=hx.at_;have c3:w.cell? ⟨gp,4,none⟩=some (.int .i64 (P:Int)):=(hat.blk.cell 4).trans rfl;have f3:=hat.blk.frozen 4;have hgp:=hat.blk.lt;have hzR:¬((z:Int) > (P:Int)):=oM;have hzN:¬P < z:=oM;have hz0:decide ((z:Int) < 0)=false:=by simp
 have e1:wrap64 ((P:Int)+1)=((P+1:Nat):Int):=by rw [dI oM oM];rfl
 obtain ⟨HX,Hsort,Hbd⟩:=hqq3 hx hsort hbd;clear hx hat hsort hbd;go_enter Tryz.func60,Tryz.ntmps60;go_wp2_with fail;go_quiet (fail)
 rename_i nq
 have c3q:∀q,((w.alloc (.cells #[(z:Int)] 3)).drewN q).cell? ⟨gp,4,none⟩=some (.int .i64 (P:Int)):=fun q=>(World.cell?_alloc_lt w _ ⟨gp,4,none⟩ hgp).trans c3;have hmf:∀(fn:Fn) (first cap:Array Value) (w:World),(Instr.makeFunc fn first cap).run Tryz.prog w=.ok (.func fn first cap) w:=fun _ _ _ _=>rfl;go_wp2_with fail;have hatA:=HX.out.at_.below (bR.alloc nL (.cells #[(z:Int)] 3));have hat1:PermAt ((w.alloc (.cells #[(z:Int)] 3)).drewN nq) 0 gp ga vl vo vt vf R P ks C tk fr:=hatA.below (below_drewN bR _);have hat2:=hat1.set_places (P+1);have hgx1:Bk ((w.alloc (.cells #[(z:Int)] 3)).drewN nq) w.heap.size 3 #[(z:Int)]:=Bk.new w _ _;have hgx2:=hgx1.far (p:=⟨gp,4,none⟩) (fun e=>by have e':w.heap.size=gp:=e;omega) (.int .i64 ((P+1:Nat):Int));have hvl:∀b,vl.ownBlock=some b->b≠w.heap.size:=fun b hb e=>by have:=(HX.out.at_.lrow.lt b hb).2;omega
 have hC:∀k,k∈ks->aB C k<=1000000000000/\aH C k<=1000000000000:=fun k hk=>by have:=Hbd.out (aB C k,aH C k) (zAy.2 ⟨k,hk,rfl⟩);have h1:aB C k < R:=this.1;have h2:aH C k < P:=this.2;omega
 have hkl:=iA HX.out.nd HX.out.at_.lt;refine (aAo 0 gp ga w.heap.size z vl vo vt vf R (P+1) ks C tk fr _ hat2 HX.out.nd (by have:=HX.out.sz;omega) hgx2 hvl hC).mono ?_;rintro e w2 ⟨rfl,hk2,C',hl',hf',hat3⟩;have hkF:Keep F w w2:=(Keep.setCell (F:=F) (((Keep.refl _ _).alloc _).drewN _) (p:=⟨gp,4,none⟩) (.inl HX.out.fp) _).trans (hk2.mono fun b _ hb=>HX.out.fl b hb);have hE:PermE w2 F gp R (P+1) ((ks.map fun k=>(aB C k,aH C k)).map fun x=>(x.1,inR x.2 z)):=by
  refine ⟨⟨ga,vl,vo,vt,vf,ks,C',tk,fr,⟨hat3,HX.out.fp,HX.out.fa,HX.out.fl,HX.out.fo,HX.out.ft,HX.out.ff,HX.out.nd,by rw [hl'];exact HX.out.tkl,HX.out.tkk,HX.out.frn,HX.out.frk,by rw [hl'];exact HX.out.sz⟩,(aBg (f:=fun x=>(x.1,inR x.2 z)) hf').symm⟩,?_,fun x hx=>?_⟩;exact List.pairwise_map.2 (Hsort.out.imp fun {a b} hab=>hab)
  · obtain ⟨y,hy,rfl⟩:=zAy.1 hx;have:=Hbd.out y hy;have h9:∀a,inR a z<=a+1:=fun a=>by unfold inR;split <;> omega
    have h8:=h9 y.1;have h7:=h9 y.2;constructor;show y.1 < _;omega;show inR y.2 z < _;omega
 obtain ⟨HE,HkF⟩:=hqq2 hE hkF;clear hkF hE hat3 hf' hk2 hl' hC hvl hgx2 hgx1 hat2 hat1 hatA;go_wp2_with fail;go_ret;exact ⟨rfl,HE.out,HkF.out⟩
theorem aBx {L:List Nat} {i s:Nat} (h:L[i]?=some s):(L.take i).count s < L.count s:=by
 have h1:L.count s=(L.take (i+1)).count s+(L.drop (i+1)).count s:=by rw [<-zCc,zAu]
 have h2:(L.take (i+1)).count s=(L.take i).count s+1:=by rw [zAv,h,zCc];simp
 omega
theorem pM (B gk:Nat) (L:List Nat) (i j s:Nat) (w:World) (h:WalkAt w B gk L) (his:L[i]?=some s) (hij:cJ L s i=j) (hL:∀x∈L,x < 257) (hl:L.length<=1000):
 Calls Tryz.prog 132 #[gk,(j:Int)] w fun e w'=>e=.returned (.int .i64 (s:Int))/\Below w.heap.size w w':=by
 have hs:s < 257:=hL _ (zAd his);have hcl:=aBx his;have hjd:L.countP (fun x=>decide (x < s))+(L.take i).count s=j:=hij;have hjl:j < L.length:=by have:=vU L s L.length;unfold cJ at this;rw [List.take_length] at this;omega
 have hH:=h;obtain ⟨gv,gt,h1,h2,h3⟩:=h;have c1:=h1.cell 1;obtain ⟨H,H3,Hj,Hc,Hjl,Hl⟩:=hqq6 hH h3 hjd hcl hjl hl;clear hH h1 h2 h3 hjd hcl hij hjl hL hl his;go_enter Tryz.func132,Tryz.ntmps132;go_wp2_with fail;refine (yK B gk L j w H.out Hjl.out).mono ?_;rintro e w1 ⟨rfl,rfl⟩;go_wp2_with fail;refine (yQ gt L j s _ H3.out hs (by have:=Hj.out;omega) (by have:=Hj.out;have:=Hc.out;omega) Hl.out).mono ?_;rintro e w' ⟨rfl,hb⟩;go_wp2_with fail;go_ret;exact ⟨rfl,hb⟩
theorem qN (B gk:Nat) (L:List Nat) (i j s:Nat) (w:World) (h:WalkAt w B gk L) (his:L[i]?=some s) (hij:cJ L s i=j) (hL:∀x∈L,x < 257) (hl:L.length<=1000) (hT:TabW w) (hB0:1 < B):
 Calls Tryz.prog 91 #[gk,(j:Int)] w fun e w'=>e=.returned (.int .i64 (i:Int))/\VB B w w':=by
 have hs:s < 257:=hL _ (zAd his);have hfirst:=pM B gk L i j s w h his hij hL hl;obtain ⟨q,hq⟩:∃q,L.countP (fun x=>decide (x < s))=q:=⟨_,rfl⟩;obtain ⟨c,hc⟩:∃q,(L.take i).count s=q:=⟨_,rfl⟩;have hjd:q+c=j:=by rw [<-hq,<-hc];exact hij
 have hb1:q<=1000:=by rw [<-hq];exact zAk zBh hl
 have hb2:c<=1000:=by rw [<-hc];exact zAk zBv (by rw [zAj];omega)
 have hH:=h;obtain ⟨gv,gt,h1,h2,h3⟩:=h;have hlt:=h1.lt;obtain ⟨H,H1,H2,His,HL,Hl,Hq,Hc,Hj⟩:=hqq9 hH h1 h2 his hL hl hq hc hjd;have HT:=lhd hT;clear hH h1 h2 h3 his hL hl hq hc hij hjd hT;have hs0:decide ((s:Int) < 0)=false:=by simp
 go_enter Tryz.func91,Tryz.ntmps91;go_wp2_with fail;refine hfirst.mono ?_;rintro e W ⟨rfl,hb⟩;clear hfirst;have hv:VB B w W:=VisK.of_below hb;obtain ⟨HW,H1W,H2W,HTW⟩:=hqq4 (H.out.vis hv.1) (hv.1.bk H1.out dC dC) (H2.out.vis hv.1) (HT.out.vb hv hB0 HT.out.pos);have hsz:=hv.1.size;have Hv:=lhd hv;clear hv hb;go_wp2_with fail;refine wp_region_any kR ?_;refine aO [11,12,13,14,15,16,17,18,19,20,21,4] (VB B) (Vs [is gk,is gk,is gk,is gv,is (j:Int),is gk,is (s:Int),is (q:Int),is (c:Int),is (s:Int),is (i:Int),is (i:Int)]) _ _ rfl kR vR (fun _ _=>VisK.trans) (cL tA1) ?_ ?_
 · refine aM ?_;refine pH 0 (.pointer (some ⟨gk,0,none⟩)) ?_;refine pV 0 11 ?_;refine pV 1 12 ?_;refine sC (fun _ w5 hS _ _ _ hval _ _ _ hK=>?_) ?_
   · have e13:_=_:=hval 2 13 kR rfl;replace hS:(VB B) W w5:=bD hS;have c26:w5.cell? ⟨gk,0,none⟩=some (.pointer (some ⟨gv,0,none⟩)):=((hS.1.bk H1W.out dC dC).cell 0).trans rfl;go_simp;exact hK _ _ vR rfl
   refine pH 1 (.int .i64 (j:Int)) ?_;refine pH 0 (.pointer (some ⟨gk,0,none⟩)) ?_;refine pH 5 (.int .i64 (s:Int)) ?_;refine sC (fun _ w5 hS _ _ _ hval _ _ _ hK=>?_) ?_
   · have e16:_=_:=hval 5 16 kR rfl;have e17:_=_:=hval 6 17 kR rfl;replace hS:(VB B) W w5:=bD hS;go_simp;refine (iT B gk L s w5 (HW.out.vis hS.1) hs Hl.out).mono ?_;rintro e w8 ⟨rfl,hb8⟩;rw [Hq.out];exact hK _ _ (VisK.of_below hb8) rfl
   refine sC (fun _ _ _ _ _ _ hval _ _ _ hK=>?_) ?_
   · have e15:_=_:=hval 4 15 kR rfl;have e18:_=_:=hval 7 18 kR rfl;have hx1:IntKind.i64.wrap ((j:Int) -(q:Int))=(c:Int):=(by rw [IntKind.wrap_i64];have:=Hj.out;omega);go_simp;exact hK _ _ vR rfl
   refine pH 5 (.int .i64 (s:Int)) ?_;refine sC (fun _ w5 hS _ _ _ hval _ _ _ hK=>?_) ?_
   · have e14:_=_:=hval 3 14 kR rfl;have e19:_=_:=hval 8 19 kR rfl;have e20:_=_:=hval 9 20 kR rfl;replace hS:(VB B) W w5:=bD hS;go_simp;refine (yG B gv L i c s w5 (H2W.out.vis hS.1) His.out Hc.out HL.out Hl.out (HTW.out.vb hS hB0 HTW.out.pos) hB0).mono ?_;rintro e w8 ⟨rfl,hv8⟩;exact hK _ _ hv8 rfl
   refine pV 10 21 ?_;exact aC
 · intro ev w6 hS hval;replace hS:(VB B) W w6:=bD hS;have e4:ev (.tmp 4)=.int .i64 (i:Int):=hval 11 4 rfl;simp only [aI,zq1,zq2,Act.put,zq3,zq4,zq5];rw [e4];clear hval;have hv6:=Hv.out.trans hS;go_wp2_with fail;go_ret;exact ⟨rfl,hv6⟩
theorem aDs (B gl n c gx z k:Nat) (C:List (Nat×Nat)) (w:World) (h:w.ownsRow B 170 2 (.slice (some ⟨gl,0,none⟩) n c) n (bS C)) (hk:k < C.length) (hx:Bk w gx 3 #[(z:Int)]) (hC:aB C k<=1000000000000):
 Calls Tryz.prog 156 #[.pointer (some ⟨gl,k*2,none⟩),gx] w fun e w'=>e=.returned (.tuple #[])/\w'.ownsRow B 170 2 (.slice (some ⟨gl,0,none⟩) n c) n (bS (C.set k (bC (aB C k) z,aH C k)))/\Keep (fun b=>b=gl) w w':=by
 obtain ⟨p0,p1⟩:=cF C k hk;have hn:C.length=n:=by have h1:=h.1;rw [dB] at h1;omega
 have d0:=(World.ownsRow.cellAt h (k*2) oM).trans p0;have d1:=(World.ownsRow.cellAt h (k*2+1) oM).trans p1;have x0:w.cell? ⟨gx,0,none⟩=some (.int .i64 (z:Int)):=(hx.cell 0).trans rfl;obtain ⟨cur,hcur⟩:=fP h;have fr:=hcur.frozen (k*2);have hgl:=hcur.lt;have hgx:=hx.lt;have hself:=lO C k hk;have hset:=fun v=>kV C k v hk;obtain ⟨r,hr⟩:=eqx (aB C k);obtain ⟨p,hp⟩:=eqx (aH C k);rw [hr] at d0 hself hC;rw [hp] at d1 hself hset;rw [hr,hp];obtain ⟨H,Hself,Hset⟩:=hqq3 h hself hset;clear h hk hx p0 p1 hcur hself hset hn hr hp;by_cases hz:z < r
 · have z1:decide ((r:Int) > (z:Int))=true:=zBz oM;have e1:IntKind.i64.wrap ((r:Int) - 1)=((r - 1:Nat):Int):=(by rw [IntKind.wrap_i64];omega);have ho:=(World.ownsRow.stored H.out (k*2) (.int .i64 ((r - 1:Nat):Int))).1;rw [Hset.out] at ho;have Ho:=lhd ho;clear ho;go_enter Tryz.func156,Tryz.ntmps156;go_wp2_with fail;go_quiet (fail);go_wp2_with fail;go_end0;refine ⟨rfl,?_,Keep.setCell (F:=fun b=>b=gl) ((Keep.refl _ _).drewN _) (p:=⟨gl,k*2,none⟩) (.inl rfl) _⟩;have e2:bC (r) z=r - 1:=(by unfold bC;rw [zBx oM]);rw [e2];exact Ho.out
 · have z1:decide ((r:Int) > (z:Int))=false:=zBy oM;go_enter Tryz.func156,Tryz.ntmps156;go_wp2_with fail;go_quiet (fail);go_wp2_with fail;go_end0;refine ⟨rfl,?_,(Keep.refl _ _).drewN _⟩;have e2:bC (r) z=r:=(by unfold bC;rw [zBw oM]);rw [e2,Hself.out];exact H.out
theorem aDt (B gl n c gx z k:Nat) (C:List (Nat×Nat)) (w:World) (h:w.ownsRow B 170 2 (.slice (some ⟨gl,0,none⟩) n c) n (bS C)) (hk:k < C.length) (hx:Bk w gx 3 #[(z:Int)]) (hC:aH C k<=1000000000000):
 Calls Tryz.prog 158 #[.pointer (some ⟨gl,k*2,none⟩),gx] w fun e w'=>e=.returned (.tuple #[])/\w'.ownsRow B 170 2 (.slice (some ⟨gl,0,none⟩) n c) n (bS (C.set k (aB C k,bC (aH C k) z)))/\Keep (fun b=>b=gl) w w':=by
 obtain ⟨p0,p1⟩:=cF C k hk;have hn:C.length=n:=by have h1:=h.1;rw [dB] at h1;omega
 have d0:=(World.ownsRow.cellAt h (k*2) oM).trans p0;have d1:=(World.ownsRow.cellAt h (k*2+1) oM).trans p1;have x0:w.cell? ⟨gx,0,none⟩=some (.int .i64 (z:Int)):=(hx.cell 0).trans rfl;obtain ⟨cur,hcur⟩:=fP h;have fr:=hcur.frozen (k*2+1);have hgl:=hcur.lt;have hgx:=hx.lt;have hself:=lO C k hk;have hset:=fun v=>nQ C k v hk;obtain ⟨r,hr⟩:=eqx (aB C k);obtain ⟨p,hp⟩:=eqx (aH C k);rw [hr] at d0 hself hset;rw [hp] at d1 hself hC;rw [hr,hp];obtain ⟨H,Hself,Hset⟩:=hqq3 h hself hset;clear h hk hx p0 p1 hcur hself hset hn hr hp;by_cases hz:z < p
 · have z1:decide ((p:Int) > (z:Int))=true:=zBz oM;have e1:IntKind.i64.wrap ((p:Int) - 1)=((p - 1:Nat):Int):=(by rw [IntKind.wrap_i64];omega);have ho:=(World.ownsRow.stored H.out (k*2+1) (.int .i64 ((p - 1:Nat):Int))).1;rw [Hset.out] at ho;have Ho:=lhd ho;clear ho;go_enter Tryz.func158,Tryz.ntmps158;go_wp2_with fail;go_quiet (fail);go_wp2_with fail;go_end0;refine ⟨rfl,?_,Keep.setCell (F:=fun b=>b=gl) ((Keep.refl _ _).drewN _) (p:=⟨gl,k*2+1,none⟩) (.inl rfl) _⟩;have e2:bC (p) z=p - 1:=(by unfold bC;rw [zBx oM]);rw [e2];exact Ho.out
 · have z1:decide ((p:Int) > (z:Int))=false:=zBy oM;go_enter Tryz.func158,Tryz.ntmps158;go_wp2_with fail;go_quiet (fail);go_wp2_with fail;go_end0;refine ⟨rfl,?_,(Keep.refl _ _).drewN _⟩;have e2:bC (p) z=p:=(by unfold bC;rw [zBw oM]);rw [e2,Hself.out];exact H.out
theorem zH (B gp ga gx0 z0:Nat) (vl vo vt vf:Value) (R P:Nat) (ks:List Nat) (C:List (Nat×Nat)) (tk:List Bool) (fr:List Nat) (w:World) (h:PermAt w B gp ga vl vo vt vf R P ks C tk fr) (hnd:ks.Nodup) (hl:ks.length<=1000000) (hx0:Bk w gx0 3 #[(z0:Int)]) (hgx0:∀b,vl.ownBlock=some b->b≠gx0) (hC:∀k,k∈ks->aB C k<=1000000000000/\aH C k<=1000000000000):
 Calls Tryz.prog 118 #[gp,.func (.func 156) #[] #[gx0]] w fun e w'=>e=.returned (.tuple #[])/\Keep (fun b=>vl.ownBlock=some b) w w'/\∃C',C'.length=C.length/\(∀k,k∈ks->(aB C' k,aH C' k)=(bC (aB C k) z0,aH C k))/\PermAt w' B gp ga vl vo vt vf R P ks C' tk fr:=by
 obtain ⟨A2,c2,hvo,_,_⟩:=aV h.orow;have c2':w.cell? ⟨gp,2,none⟩=some (.slice A2 ks.length c2):=(h.blk.cell 2).trans (by rw [hvo];rfl);have hgp:=h.blk.lt;obtain ⟨n,hn⟩:=eqx ks.length;rw [hn] at c2' hl;obtain ⟨H,Hn,Hvo,Hnd,HC⟩:=hqq5 h hn hvo hnd hC;clear h hn hvo hnd hC;go_enter Tryz.func118,Tryz.ntmps118;go_wp2_with fail;go_loopw [11] (fun i wr=>∃(j:Nat) (Cj:List (Nat×Nat)),j<=n/\i=.int .i64 (j:Int)/\Cj.length=C.length/\(∀k,k∈ks.take j->(aB Cj k,aH Cj k)=(bC (aB C k) z0,aH C k))/\(∀k,k∈ks.drop j->(aB Cj k,aH Cj k)=(aB C k,aH C k))/\PermAt wr B gp ga vl vo vt vf R P ks Cj tk fr/\Keep (fun b=>vl.ownBlock=some b) w wr) (fun i _=>n -(intOf i).toNat)
 case atStart=>exact ⟨0,C,zAp _,rfl,rfl,fun k hk=>by simp at hk,fun k _=>rfl,H.out,Keep.refl _ _⟩
 case round=>
  obtain ⟨j,Cj,hj,rfl,hlen,hd1,hd2,hp,hk⟩:=hrel;by_cases hlt:j < n
  · have hjl:j < ks.length:=(by rw [Hn.out];exact hlt);obtain ⟨k,hkj⟩:∃k,ks[j]?=some k:=⟨_,zAa hjl⟩;have hkm:=zAd hkj;have hkC:k < Cj.length:=hp.lt k hkm;have ho2:=hp.orow;rw [Hvo.out] at ho2;obtain ⟨g2,k2,e2,_,hg2⟩:=World.ownsRow.form ho2 oM;injection e2 with e2a _ e2c;subst e2a e2c;have hlr:=hp.lrow;obtain ⟨g1,k1,e1,_,hg1⟩:=World.ownsRow.form hlr oM;rw [e1] at hlr;have d2:wr.cell? ⟨g2,j,none⟩=some (.int .i64 (k:Int)):=(World.ownsRow.cellAt ho2 j oM).trans (by rw [zAf,hkj];rfl);have d1:wr.cell? ⟨gp,1,none⟩=some (.slice (some ⟨g1,0,none⟩) Cj.length k1):=(hp.blk.cell 1).trans (by rw [e1];rfl);have hgpr:=hp.blk.lt;have hsz:=hk.size;have hkd:k∈ks.drop j:=(by rw [zAx hjl,List.getElem_eq_getElem?_get];simp [hkj]);have hCk:(aB Cj k,aH Cj k)=(aB C k,aH C k):=hd2 k hkd;injection hCk with hCr hCp;have hxr:=fun (b:Nat) (e:Value.ownBlock vl=some b)=>(World.ownsRow.lt hp.lrow b e).2;obtain ⟨N,hN⟩:=eqx Cj.length;rw [hN] at hlr d1 hkC;have hxr0:=hk.bk hx0 (fun e=>hgx0 _ e rfl);have hkI:(k:Int) < (N:Int):=oM;obtain ⟨Hp,Hk,Hlr,Hkj,Hd1,Hd2,HN,Hlen,He1⟩:=hqq9 hp hk hlr hkj hd1 hd2 hN hlen e1;obtain ⟨HCr,HCp,Hkm⟩:=hqq3 hCr hCp hkm;clear hp hk hlr hkj hd1 hd2 hN hlen e1 hCr hCp hkm hkd ho2 hxr;go_wp2_with fail;refine (aDs B g1 N k1 gx0 z0 k Cj wr Hlr.out (by rw [HN.out];exact hkC) hxr0 (by rw [HCr.out];exact (HC.out k Hkm.out).1)).mono ?_;rintro e w1 ⟨rfl,hl1,hk1⟩
    have hC':PermAt w1 B gp ga vl vo vt vf R P ks (Cj.set k (bC (aB Cj k) z0,aH Cj k)) tk fr:=by
        have hp:=Hp.out;have hne:∀b t cs,t≠170->Bk wr b t cs->b≠g1:=fun b t cs ht hb e=>by subst e;obtain ⟨cu,hcu⟩:=fP Hlr.out;exact ht (aR hb hcu).1
        refine ⟨hk1.bk hp.blk (hne _ _ _ dC hp.blk),?_,aA hp.orow fun b cs _ hb=>hk1.bk hb (hne _ _ _ dC hb),hk1.bk hp.ar (hne _ _ _ dC hp.ar),aA hp.trow fun b cs _ hb=>hk1.bk hb (hne _ _ _ dC hb),aA hp.frow fun b cs _ hb=>hk1.bk hb (hne _ _ _ dC hb),hp.apart,fun x hx=>by rw [zAt];exact hp.lt x hx,hp.lo⟩;rw [zAt,HN.out,He1.out,HN.out];exact hl1
    have hk':Keep (fun b=>vl.ownBlock=some b) w w1:=Hk.out.trans (hk1.mono fun b _ e=>by rw [He1.out,show b=g1 from e];rfl)
    have hget:∀x,(aB (Cj.set k (bC (aB Cj k) z0,aH Cj k)) x,aH (Cj.set k (bC (aB Cj k) z0,aH Cj k)) x)=if x=k then (bC (aB Cj k) z0,aH Cj k) else (aB Cj x,aH Cj x):=fun x=>by
        unfold aB aH;rw [zAb,zBm];by_cases cx:k=x;subst cx;rw [zBx rfl,zBx rfl,zBx (by rw [HN.out];exact hkC)];rfl
        · rw [zBw cx,zBw (fun e=>cx e.symm),zAb]
    have hrel:∃(j':Nat) (Cj':List (Nat×Nat)),j'<=n/\Value.int .i64 ((j+1:Nat):Int)=.int .i64 (j':Int)/\Cj'.length=C.length/\(∀k,k∈ks.take j'->(aB Cj' k,aH Cj' k)=(bC (aB C k) z0,aH C k))/\(∀k,k∈ks.drop j'->(aB Cj' k,aH Cj' k)=(aB C k,aH C k))/\PermAt w1 B gp ga vl vo vt vf R P ks Cj' tk fr/\Keep (fun b=>vl.ownBlock=some b) w w1:=by
        refine ⟨j+1,_,by omega,rfl,by rw [zAt];exact Hlen.out,fun x hx=>?_,fun x hx=>?_,hC',hk'⟩
        · rw [hget];by_cases cx:x=k
          · subst cx;rw [zBx rfl,HCr.out,HCp.out]
          rw [zBw cx];refine Hd1.out x ?_;rw [zAv,Hkj.out] at hx;simp at hx;rcases hx with hx | hx;exact hx;exact absurd hx cx
        · rw [hget];have hxk:x≠k:=fun e=>by subst e;have hd:ks.drop j=x::ks.drop (j+1):=(by have hjl:j < ks.length:=(by rw [Hn.out];exact hlt);rw [zAx hjl];have h9:=Hkj.out;rw [zAa hjl] at h9;injection h9 with h9;rw [h9]);have hnd:=(List.drop_sublist j ks).nodup Hnd.out;rw [hd,List.nodup_cons] at hnd;exact hnd.1 hx
          rw [zBw hxk];exact Hd2.out x (List.mem_of_mem_drop (by rw [<-List.drop_drop] at hx;exact hx:x∈(ks.drop j).drop 1))
    have Hrel:=lhd hrel;clear hC' hk' hget hrel hk1 hl1 d1 d2;go_wp2_with fail;go_roundw
    case rel=>exact Hrel.out
    case measure=>simp [intOf];omega
  · obtain rfl:j=n:=oM;obtain ⟨Hp,Hk,Hd1⟩:=hqq3 hp hk hd1;clear hp hk hd1 hd2;go_wp2_with fail;go_end0;refine ⟨rfl,Hk.out,Cj,hlen,fun k hk=>Hd1.out k ?_,Hp.out⟩;rw [zAg (by rw [Hn.out];exact zAs _)];exact hk
theorem zI (B gp ga gx0 z0:Nat) (vl vo vt vf:Value) (R P:Nat) (ks:List Nat) (C:List (Nat×Nat)) (tk:List Bool) (fr:List Nat) (w:World) (h:PermAt w B gp ga vl vo vt vf R P ks C tk fr) (hnd:ks.Nodup) (hl:ks.length<=1000000) (hx0:Bk w gx0 3 #[(z0:Int)]) (hgx0:∀b,vl.ownBlock=some b->b≠gx0) (hC:∀k,k∈ks->aB C k<=1000000000000/\aH C k<=1000000000000):
 Calls Tryz.prog 118 #[gp,.func (.func 158) #[] #[gx0]] w fun e w'=>e=.returned (.tuple #[])/\Keep (fun b=>vl.ownBlock=some b) w w'/\∃C',C'.length=C.length/\(∀k,k∈ks->(aB C' k,aH C' k)=(aB C k,bC (aH C k) z0))/\PermAt w' B gp ga vl vo vt vf R P ks C' tk fr:=by
 obtain ⟨A2,c2,hvo,_,_⟩:=aV h.orow;have c2':w.cell? ⟨gp,2,none⟩=some (.slice A2 ks.length c2):=(h.blk.cell 2).trans (by rw [hvo];rfl);have hgp:=h.blk.lt;obtain ⟨n,hn⟩:=eqx ks.length;rw [hn] at c2' hl;obtain ⟨H,Hn,Hvo,Hnd,HC⟩:=hqq5 h hn hvo hnd hC;clear h hn hvo hnd hC;go_enter Tryz.func118,Tryz.ntmps118;go_wp2_with fail;go_loopw [11] (fun i wr=>∃(j:Nat) (Cj:List (Nat×Nat)),j<=n/\i=.int .i64 (j:Int)/\Cj.length=C.length/\(∀k,k∈ks.take j->(aB Cj k,aH Cj k)=(aB C k,bC (aH C k) z0))/\(∀k,k∈ks.drop j->(aB Cj k,aH Cj k)=(aB C k,aH C k))/\PermAt wr B gp ga vl vo vt vf R P ks Cj tk fr/\Keep (fun b=>vl.ownBlock=some b) w wr) (fun i _=>n -(intOf i).toNat)
 case atStart=>exact ⟨0,C,zAp _,rfl,rfl,fun k hk=>by simp at hk,fun k _=>rfl,H.out,Keep.refl _ _⟩
 case round=>
  obtain ⟨j,Cj,hj,rfl,hlen,hd1,hd2,hp,hk⟩:=hrel;by_cases hlt:j < n
  · have hjl:j < ks.length:=(by rw [Hn.out];exact hlt);obtain ⟨k,hkj⟩:∃k,ks[j]?=some k:=⟨_,zAa hjl⟩;have hkm:=zAd hkj;have hkC:k < Cj.length:=hp.lt k hkm;have ho2:=hp.orow;rw [Hvo.out] at ho2;obtain ⟨g2,k2,e2,_,hg2⟩:=World.ownsRow.form ho2 oM;injection e2 with e2a _ e2c;subst e2a e2c;have hlr:=hp.lrow;obtain ⟨g1,k1,e1,_,hg1⟩:=World.ownsRow.form hlr oM;rw [e1] at hlr;have d2:wr.cell? ⟨g2,j,none⟩=some (.int .i64 (k:Int)):=(World.ownsRow.cellAt ho2 j oM).trans (by rw [zAf,hkj];rfl);have d1:wr.cell? ⟨gp,1,none⟩=some (.slice (some ⟨g1,0,none⟩) Cj.length k1):=(hp.blk.cell 1).trans (by rw [e1];rfl);have hgpr:=hp.blk.lt;have hsz:=hk.size;have hkd:k∈ks.drop j:=(by rw [zAx hjl,List.getElem_eq_getElem?_get];simp [hkj]);have hCk:(aB Cj k,aH Cj k)=(aB C k,aH C k):=hd2 k hkd;injection hCk with hCr hCp;have hxr:=fun (b:Nat) (e:Value.ownBlock vl=some b)=>(World.ownsRow.lt hp.lrow b e).2;obtain ⟨N,hN⟩:=eqx Cj.length;rw [hN] at hlr d1 hkC;have hxr0:=hk.bk hx0 (fun e=>hgx0 _ e rfl);have hkI:(k:Int) < (N:Int):=oM;obtain ⟨Hp,Hk,Hlr,Hkj,Hd1,Hd2,HN,Hlen,He1⟩:=hqq9 hp hk hlr hkj hd1 hd2 hN hlen e1;obtain ⟨HCr,HCp,Hkm⟩:=hqq3 hCr hCp hkm;clear hp hk hlr hkj hd1 hd2 hN hlen e1 hCr hCp hkm hkd ho2 hxr;go_wp2_with fail;refine (aDt B g1 N k1 gx0 z0 k Cj wr Hlr.out (by rw [HN.out];exact hkC) hxr0 (by rw [HCp.out];exact (HC.out k Hkm.out).2)).mono ?_;rintro e w1 ⟨rfl,hl1,hk1⟩
    have hC':PermAt w1 B gp ga vl vo vt vf R P ks (Cj.set k (aB Cj k,bC (aH Cj k) z0)) tk fr:=by
        have hp:=Hp.out;have hne:∀b t cs,t≠170->Bk wr b t cs->b≠g1:=fun b t cs ht hb e=>by subst e;obtain ⟨cu,hcu⟩:=fP Hlr.out;exact ht (aR hb hcu).1
        refine ⟨hk1.bk hp.blk (hne _ _ _ dC hp.blk),?_,aA hp.orow fun b cs _ hb=>hk1.bk hb (hne _ _ _ dC hb),hk1.bk hp.ar (hne _ _ _ dC hp.ar),aA hp.trow fun b cs _ hb=>hk1.bk hb (hne _ _ _ dC hb),aA hp.frow fun b cs _ hb=>hk1.bk hb (hne _ _ _ dC hb),hp.apart,fun x hx=>by rw [zAt];exact hp.lt x hx,hp.lo⟩;rw [zAt,HN.out,He1.out,HN.out];exact hl1
    have hk':Keep (fun b=>vl.ownBlock=some b) w w1:=Hk.out.trans (hk1.mono fun b _ e=>by rw [He1.out,show b=g1 from e];rfl)
    have hget:∀x,(aB (Cj.set k (aB Cj k,bC (aH Cj k) z0)) x,aH (Cj.set k (aB Cj k,bC (aH Cj k) z0)) x)=if x=k then (aB Cj k,bC (aH Cj k) z0) else (aB Cj x,aH Cj x):=fun x=>by
        unfold aB aH;rw [zAb,zBm];by_cases cx:k=x;subst cx;rw [zBx rfl,zBx rfl,zBx (by rw [HN.out];exact hkC)];rfl
        · rw [zBw cx,zBw (fun e=>cx e.symm),zAb]
    have hrel:∃(j':Nat) (Cj':List (Nat×Nat)),j'<=n/\Value.int .i64 ((j+1:Nat):Int)=.int .i64 (j':Int)/\Cj'.length=C.length/\(∀k,k∈ks.take j'->(aB Cj' k,aH Cj' k)=(aB C k,bC (aH C k) z0))/\(∀k,k∈ks.drop j'->(aB Cj' k,aH Cj' k)=(aB C k,aH C k))/\PermAt w1 B gp ga vl vo vt vf R P ks Cj' tk fr/\Keep (fun b=>vl.ownBlock=some b) w w1:=by
        refine ⟨j+1,_,by omega,rfl,by rw [zAt];exact Hlen.out,fun x hx=>?_,fun x hx=>?_,hC',hk'⟩
        · rw [hget];by_cases cx:x=k
          · subst cx;rw [zBx rfl,HCr.out,HCp.out]
          rw [zBw cx];refine Hd1.out x ?_;rw [zAv,Hkj.out] at hx;simp at hx;rcases hx with hx | hx;exact hx;exact absurd hx cx
        · rw [hget];have hxk:x≠k:=fun e=>by subst e;have hd:ks.drop j=x::ks.drop (j+1):=(by have hjl:j < ks.length:=(by rw [Hn.out];exact hlt);rw [zAx hjl];have h9:=Hkj.out;rw [zAa hjl] at h9;injection h9 with h9;rw [h9]);have hnd:=(List.drop_sublist j ks).nodup Hnd.out;rw [hd,List.nodup_cons] at hnd;exact hnd.1 hx
          rw [zBw hxk];exact Hd2.out x (List.mem_of_mem_drop (by rw [<-List.drop_drop] at hx;exact hx:x∈(ks.drop j).drop 1))
    have Hrel:=lhd hrel;clear hC' hk' hget hrel hk1 hl1 d1 d2;go_wp2_with fail;go_roundw
    case rel=>exact Hrel.out
    case measure=>simp [intOf];omega
  · obtain rfl:j=n:=oM;obtain ⟨Hp,Hk,Hd1⟩:=hqq3 hp hk hd1;clear hp hk hd1 hd2;go_wp2_with fail;go_end0;refine ⟨rfl,Hk.out,Cj,hlen,fun k hk=>Hd1.out k ?_,Hp.out⟩;rw [zAg (by rw [Hn.out];exact zAs _)];exact hk
def aAW (w:World) (Bw:Nat) (t:List UInt8) (at_ n:Nat) (e:Ending) (w':World):Prop:=
 ∃A c,e=.returned (.tuple #[.slice A n c,.int .i64 0])/\Made w' w.heap.size 5 1 A n c (((t.drop at_).take n).map bv)/\VB Bw w w'
theorem aHc (Bw gl rate:Nat) (t:List UInt8) (at_ n:Nat) (w:World) (h:TpAt w Bw gl t rate) (hT:TabW w) (hB0:1 < Bw) (hr:at_+n<=t.length):
 Calls Tryz.prog 75 #[gl,(at_:Int),(n:Int)] w (aAW w Bw t at_ n):=by
 obtain ⟨i0,hi0,hz0,hz1,hz2⟩:=info_parts vK;obtain ⟨rs,gk,gp,pr,hs,hl,hrt,hz0,hn127⟩:=h;have hlen:rs.length=t.length+1:=by rw [hs.len,aT]
 have hL:(aE (aG t) rs).length=t.length+1:=by rw [bU,hlen]
 have hrow:∀p,p<=t.length->∃j,rs[j]?=some p:=fun p hp=>by obtain ⟨j,hj,e⟩:=hs.row (p:=p) (by rw [aT];omega);exact ⟨j,zAc.2 ⟨hj,e⟩⟩
 have hon:∀(i j p:Nat) (c:UInt8),rs[i]?=some (p+1)->rs[j]?=some p->t[p]?=some c->(aE (aG t) rs)[i]?=some (c.toNat+1)/\cJ (aE (aG t) rs) (c.toNat+1) i=j:=fun i j p c h1 h2 h3=>aIp hs h1 h2 h3;obtain ⟨i,hi⟩:=hrow at_ oM;have hrowat:=fV Bw gl gk gp rate t rs pr i at_ w hl hrt hs hn127 hi;obtain ⟨mv0,hblk0⟩:=hl.blk;clear hrt hz0;obtain ⟨N,hN⟩:=eqx t.length;rw [hN] at hL hrow hr hn127;have hw0:1 < w.heap.size:=hT.pos;have hgl:=hblk0.lt;have n1:decide ((at_:Int) < 0)=false:=by simp
 have n2:decide ((n:Int) < 0)=false:=by simp
 have n3:¬N < at_:=oM;have n4:decide (N < at_)=false:=zBy n3;obtain ⟨d,hd⟩:=eqx (N - at_);have n5:IntKind.i64.wrap ((N:Int) -(at_:Int))=(d:Int):=by rw [IntKind.wrap_i64];omega
 have n6:¬d < n:=oM;have n7:decide (d < n)=false:=zBy n6;obtain ⟨Hlv,Hwalk,Hblk0,Hrow,Hon,HL⟩:=hqq6 hl.lvw hl.walk hblk0 hrow hon hL;have HLt:=lhd (dM (eT t) (rs:=rs));obtain ⟨Hi,HT,HN⟩:=hqq3 hi hT hN;clear hblk0 hl hrow hon hL hi hT hs hlen hN hd;unfold aAW;go_enter Tryz.func75,Tryz.ntmps75;go_wp2_with fail;refine (cB Bw gl _ N w Hlv.out HL.out oM).mono ?_;rintro e w1 ⟨rfl,rfl⟩;go_wp2_with fail;refine (cB Bw gl _ N w Hlv.out HL.out oM).mono ?_;rintro e w1 ⟨rfl,rfl⟩;go_wp2_with fail;refine hrowat.mono ?_;rintro e w2 ⟨rfl,hv2⟩;have Hv2:=lhd hv2;clear hrowat hv2 n1 n2 n3 n4 n5 n6 n7;go_wp2_with fail;go_loopw [8,9,40] (fun v x i wr=>∃k row:Nat,k<=n/\i=.int .i64 (k:Int)/\x=.int .i64 (row:Int)/\rs[row]?=some (at_+k)/\wr.ownsRow w.heap.size 5 1 v k (((t.drop at_).take k).map bv)/\VB Bw w wr) (fun _ _ i _=>n -(intOf i).toNat)
 case atStart=>exact ⟨0,i,zAp _,rfl,rfl,Hi.out,World.ownsRow_nil _ _ _ _,Hv2.out⟩
 case round=>
  obtain ⟨k,row,hk,rfl,rfl,hrw,hown,hv⟩:=hrel;by_cases hlt:k < n
  · obtain ⟨c,hc⟩:∃c,t[at_+k]?=some c:=⟨_,zAa (by rw [HN.out];omega)⟩;obtain ⟨row',hrw2⟩:=Hrow.out (at_+k+1) oM;obtain ⟨hs1,hs2⟩:=Hon.out row' row (at_+k) c hrw2 hrw hc;obtain ⟨s,hsc⟩:∃s,s=c.toNat+1:=⟨_,rfl⟩;rw [<-hsc] at hs1 hs2;have hnext:((t.drop at_).take (k+1)).map bv=((t.drop at_).take k).map bv++ [bv c]:=(by rw [zAv,zBt,hc,zAz];rfl);have hblk:=hv.1.bk Hblk0.out dC dC;have c40:=hblk.cell 0;have l40:=hblk.lt;have hsz:=hv.1.size;have hwk:=Hwalk.out.vis hv.1;obtain ⟨Hwk,Hsc,Hs1,Hs2,Hown0,Hv0,Hnext,Hrow2⟩:=hqq8 hwk hsc hs1 hs2 hown hv hnext hrw2;clear hrw2 hs1 hs2 hown hv hnext hblk hwk hrw hc hsc;go_wp2_with fail;refine (pM Bw gk _ row' row s wr Hwk.out Hs1.out Hs2.out HLt.out (by rw [HL.out];omega)).mono ?_;rintro e w3 ⟨rfl,hb3⟩;go_wp2_with fail;refine (uT c s Hsc.out w3).mono ?_;rintro e W1 ⟨rfl,hb4⟩;have hb5:Below wr.heap.size wr W1:=hb3.trans (hb4.mono hb3.size);have hown1:=(VisK.of_below (F:=fun b=>Bw<=b) hb5).1.own Hown0.out dC dC;have hv1:=Hv0.out.below hb5;have hblk1:=hv1.1.bk Hblk0.out dC dC;have hltr:∀b,u8.ownBlock=some b->b < W1.heap.size:=fun b hb=>(hown1.lt b hb).2;have hlt0:∀b,u8.ownBlock=some b->w.heap.size<=b:=fun b hb=>(hown1.lt b hb).1;have hng:¬u8.ownBlock=some gl:=fun e=>aY hown1 hblk1 dC e.symm;have hsz1:=hv1.1.size;obtain ⟨Hown,Hv,Hblk,Hltr,Hlt,Hng⟩:=hqq6 hown1 hv1 hblk1 hltr hlt0 hng;clear hb3 hb4 hb5 hown1 hv1 hblk1 hltr hlt0 hng c40 l40 Hown0 Hv0 Hwk;go_wp2_with fail;refine wp_region_any kR ?_;refine bZ Bw 10 [52,53,54,55,56,57,58,59,60,61] (fun b=>u8.ownBlock=some b) 3 [3] (fun w2=>w2.ownsRow w.heap.size 5 1 u8 k (((t.drop at_).take k).map bv)) (fun x w2=>w2.ownsRow w.heap.size 5 1 x (k+1) (((t.drop at_).take k).map bv++ [bv c])) [is (u8),is (bv c),fun x w2=>∃g,x=.slice (some ⟨g,0,none⟩) 1 1/\Bk w2 g 5 #[bv c]/\u8.ownBlock≠some g,cR,is gl,is gl,is gl,is gk,is (row:Int),is (row':Int)] _ _ rfl dC kR kR kR (Hown.out) (fun w1 w2 h _ k=>k.1.own h dC dC) (fun _ _ _ h k=>k.1.own h dC dC) (by repeat' (first | exact gV _ _ | exact iX _ | exact fun _ _ _ ⟨g,h1,h2,h3⟩ k=>⟨g,h1,k.1.bk h2 dC dC h3,h3⟩|(refine zAe.2 ⟨?_,?_⟩)|(intro p hp;cases hp))) ?_ ?_
    · refine bM ?_;refine pH3 8 (u8) ?_;refine pH3 10 (bv c) ?_;refine sC3 (fun _ w5 hS _ _ _ _ hval _ _ _ hK=>?_) ?_
      · replace hS:VFB Bw (fun b=>u8.ownBlock=some b) W1 w5:=fD hS;have e53:_=_:=hval 1 53 kR rfl;go_simp;exact hK _ _ (aK (vR.alloc _)) ⟨_,rfl,Bk.new _ _ _,fun h=>by have:=(Hltr.out _ h);have:=hS.1.size;omega⟩
      refine sC3 (fun ev w5 hS hU _ _ _ hval _ _ ha hK=>?_) ?_
      · replace hS:VFB Bw (fun b=>u8.ownBlock=some b) W1 w5:=fD hS;have hpre:=hU rfl;have e52:_=_:=hval 0 52 kR rfl;have p54:(fun x w2=>∃g,x=.slice (some ⟨g,0,none⟩) 1 1/\Bk w2 g 5 #[bv c]/\u8.ownBlock≠some g) (ev (.tmp 54)) w5:=hval 2 54 kR rfl;obtain ⟨g53,e53,hb53,hn53⟩:=p54;subst ha;have hws5:=hS.1.size;refine dS w5 (.tmp 52) (.tmp 54) _ rfl w.heap.size 5 i0 (.int .u8 0) 1 1 Tryz.underlying26 hi0 hz0 hz1 hz2 rfl dC u8 k _ e52 hpre w5.heap.size (some ⟨g53,0,none⟩) 1 1 [bv c] e53 (aEd hb53) (by simp [Value.oneCell',bv]) (by unfold maxLen;omega) oM (zAk hsz1 hws5) ?_;intro v6 w6 hown6 hg6 hat6;refine hK _ _ (kB ⟨VisF.of_keep ⟨hg6.os,hg6.tape,hg6.output,hg6.size,fun k hk hn=>hg6.block k hk (fun e=>hn e.symm)⟩,⟨hg6.os,hg6.tape,hg6.output,hg6.size,fun k hk hn=>hg6.block k hk (fun e=>hn (.inl e.symm))⟩⟩) hown6
      refine pH3 0 (.pointer (some ⟨gl,0,none⟩)) ?_;refine pV3 4 56 ?_;refine pV3 5 57 ?_;refine sC3 (fun _ w5 hS _ _ _ _ hval _ _ _ hK=>?_) ?_
      · replace hS:VFB Bw (fun b=>u8.ownBlock=some b) W1 w5:=fD hS;have e58:_=_:=hval 6 58 kR rfl;have hb5:=hS.1.bk Hblk.out dC dC Hng.out;have c59:=hb5.cell 0;have l59:=hb5.lt;go_simp;exact hK _ _ (aK vR) rfl
      refine pH3 9 (.int .i64 (row:Int)) ?_;refine sC3 (fun _ w5 hS _ _ hf _ hval _ _ _ hK=>?_) ?_
      · replace hS:VFB Bw (fun b=>u8.ownBlock=some b) W1 w5:=fD hS;have e59:_=_:=hval 7 59 kR rfl;have e60:_=_:=hval 8 60 kR rfl;go_simp;have hvw:=(VFB.trans (VFB.of_vb Hv.out) hS).to_vb (fun b hb hf=>by have:=(Hlt.out b hf);omega);refine (qN Bw gk _ row' row s w5 (Hwalk.out.vis hvw.1) Hs1.out Hs2.out HLt.out (by rw [HL.out];omega) (HT.out.vb hvw hB0 HT.out.pos) hB0).mono ?_;rintro e w8 ⟨rfl,hv8⟩;exact hK _ _ (aK hv8) rfl
      exact aC
    · intro ev w6 f hS hval hall;replace hS:VFB Bw (fun b=>u8.ownBlock=some b) W1 w6:=fD hS;have p55:(fun x w2=>w2.ownsRow w.heap.size 5 1 x (k+1) (((t.drop at_).take k).map bv++ [bv c])) (ev (.tmp 55)) w6:=hval 3 55 dC rfl;have e61:ev (.tmp 61)=.int .i64 (row':Int):=hval 9 61 dC rfl;obtain ⟨vJ,pJ0⟩:=hall 3 dC;have pJ:(fun x w2=>w2.ownsRow w.heap.size 5 1 x (k+1) (((t.drop at_).take k).map bv++ [bv c])) vJ w6:=pJ0;clear pJ0 hall;simp only [aI,zq1,zq2,Act.put,zq3,zq4,zq5];rw [e61];clear hval;have hvw:=(VFB.trans (VFB.of_vb Hv.out) hS).to_vb (fun b hb hf=>by have:=(Hlt.out b hf);omega);change wpAny Tryz.prog Region.Mode.any _ _ (2+f) (bV 10 12) _ w6;rw [show 2+f=f+1+1 by omega];generalize ev (.tmp 55)=v6 at p55⊢;obtain ⟨Hown6,Hv6⟩:=hqq2 p55 hvw;clear p55 hvw hS pJ;refine aQ (f:=f+1) (i:=10) kR ?_;refine bW rfl rfl ?_;generalize hK:wpAny Tryz.prog _ _ _ (f+1) _=K5;go_simp;subst hK;refine aQ (f:=f) (i:=11) kR ?_;refine bW rfl rfl ?_;generalize hK:wpAny Tryz.prog _ _ _ f _=K5;go_simp;subst hK;refine bK kR ?_;go_wp2_with fail;go_roundw
      case rel=>exact ⟨k+1,row',by omega,by go_num,by first | rfl | trivial,Hrow2.out,by rw [Hnext.out];exact Hown6.out,Hv6.out⟩
      case measure=>simp [intOf];omega
  · obtain rfl:k=n:=oM;obtain ⟨A9,c9,rfl,hm9⟩:=aS hown;obtain ⟨Hm9,Hv⟩:=hqq2 hm9 hv;clear hown hm9 hv hrw;go_wp2_with fail;go_ret2;exact ⟨A9,c9,rfl,Hm9.out,Hv.out⟩
end
end Go.Proofs.YthldmddkfbijhaaGreatDoor
