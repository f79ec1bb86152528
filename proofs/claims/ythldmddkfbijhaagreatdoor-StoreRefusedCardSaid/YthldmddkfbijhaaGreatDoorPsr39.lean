/- Lemmas of the walk. Conditions: each its own. -/
import Derived.Test.YthldmddkfbijhaaGreatDoorPsr5
import Derived.Test.YthldmddkfbijhaaGreatDoorPsr18
import Derived.Test.YthldmddkfbijhaaGreatDoorProg
import Derived.Test.YthldmddkfbijhaaGreatDoorShl
import Derived.Test.YthldmddkfbijhaaGreatDoorShi
set_option linter.all false
set_option maxRecDepth 100000
set_option maxHeartbeats 4000000
namespace Go.Proofs.YthldmddkfbijhaaGreatDoor
open Go.RowKit
structure Shp where
 len:Int
 height:Int
 leaves:Int
 nodes:Int
def Shp.cells (s:Shp):List Value:= [iv s.len,iv s.height,iv s.leaves,iv s.nodes]
def Shp.val (s:Shp):Value:=.agg #[iv s.len,iv s.height,iv s.leaves,iv s.nodes]
def cD (l:List Shp):List Value:=l.flatMap Shp.cells
def Shp.zero:Shp:=⟨0,0,0,0⟩
def Shp.add (a b:Shp):Shp:=⟨a.len+b.len,max a.height b.height,a.leaves+b.leaves,a.nodes+b.nodes⟩
theorem dU (l:List Shp) (i j:Nat) (s:Shp) (h:l[i]?=some s) (hj:j < 4):(cD l)[i*4+j]?=s.cells[j]?:=by
 induction l generalizing i with
 | nil=>simp at h
 | cons a l ih=>
   rcases i with _ | i
   · simp at h;subst h;simp only [cD,List.flatMap_cons,Nat.zero_mul,zBi];rw [zAn (by simp [Shp.cells];omega)]
   simp only [zCf] at h;have:=ih i h;simp only [cD,List.flatMap_cons] at this⊢;rw [zAo (by simp [Shp.cells];omega)];rw [<-this];congr 1;simp [Shp.cells];omega
theorem qW (l:List Shp):(cD l).length=l.length*4:=by
 induction l with
 | nil=>rfl
 | cons a l ih=>
   have h4:a.cells.length=4:=rfl;have e:cD (a::l)=a.cells++cD l:=(by simp [cD]);rw [e,zAi,ih,h4,zCg];omega
def aAY (S:Nat->Prop) (i g:Nat):Prop:=(i=0/\g=0)∨∃s,S s/\s < i/\g+s+1=i/\∀u,s < u->u < i->¬S u
section
variable {S : Nat -> Prop} {r N i g : Nat}
theorem aJZ (h:S i):aAY S (i+1) 0:=.inr ⟨i,h,by omega,by omega,fun u h1 h2=>by omega⟩
theorem aKU (h0:S 0) (hn:¬S i) (hg:aAY S i g):aAY S (i+1) (g+1):=by
 rcases hg with ⟨rfl,rfl⟩|⟨s,h1,h2,h3,h4⟩;exact absurd h0 hn;refine .inr ⟨s,h1,by omega,by omega,fun u k1 k2=>?_⟩;by_cases c:u=i;rw [c];exact hn;exact h4 u k1 oM
theorem aKV (hG:pS S r N) (hr:1<=r) (h:aAY S (i+1) g) (hi:i<=N):g < r:=by
 rcases h with ⟨h,_⟩|⟨s,h1,h2,h3,h4⟩;omega;by_cases c:g < r;exact c;obtain ⟨u,k1,k2,k3⟩:=hG s h1 oM;exact absurd k1 (h4 u k2 oM)
end
def mkB (pr:List (Nat×Nat)) (j i:Nat):Bool:=decide (∃x∈pr.take j,x.2=i)
def mkV (pr:List (Nat×Nat)) (n j:Nat):Array Value:=((List.range n).map fun i=>Value.bool (mkB pr j i)).toArray
theorem aIw (pr:List (Nat×Nat)) (n:Nat):mkV pr n 0=Array.replicate n (.bool false):=by
 apply Array.ext';unfold mkV;rw [Array.toList_replicate];refine List.ext_getElem? fun i=>?_;rw [zAf,List.getElem?_replicate];by_cases hi:i < n
 · rw [zBx hi,zCk hi];simp [mkB]
 rw [zBw hi,List.getElem?_eq_none_iff.2 (by rw [zCi];omega)];rfl
theorem rL (pr:List (Nat×Nat)) (n j:Nat):(mkV pr n j).size=n:=by simp [mkV]
theorem mM (pr:List (Nat×Nat)) (j:Nat) {n i:Nat} (hi:i < n):(mkV pr n j)[i]?=some (.bool (mkB pr j i)):=by
 unfold mkV;rw [zCw,zAf,zCk hi];rfl
theorem aFz {pr:List (Nat×Nat)} {n j:Nat} {x:Nat×Nat} (h:pr[j]?=some x):(mkV pr n j).setIfInBounds x.2 (.bool true)=mkV pr n (j+1):=by
 apply Array.ext_getElem?;intro i;rw [zCd];by_cases hi:i < n
 · rw [mM pr (j+1) hi,mM pr j hi,rL];have e:mkB pr (j+1) i=(mkB pr j i||decide (x.2=i)):=(by unfold mkB;rw [Bool.eq_iff_iff,Bool.or_eq_true,zCa,zCa,zCa,zAv,h];constructor;rintro ⟨y,hy,e⟩;rcases zCp.1 hy with hy | hy;exact .inl ⟨y,hy,e⟩;have:y=x:=(by simpa using hy);subst this;exact .inr e;rintro (⟨y,hy,e⟩| e);exact ⟨y,zCp.2 (.inl hy),e⟩;exact ⟨x,zCp.2 (.inr (by simp)),e⟩);rw [e];by_cases ha:x.2=i
   · rw [zBx ha,zBx oM];simp [ha]
   · rw [zBw ha];simp [ha]
 · have h1:(mkV pr n j)[i]?=none:=Array.getElem?_eq_none (by rw [rL];omega);have h2:(mkV pr n (j+1))[i]?=none:=Array.getElem?_eq_none (by rw [rL];omega);rw [h1,h2,rL];by_cases ha:x.2=i
   · rw [zBx ha,zBw oM]
   · rw [zBw ha]
theorem aJT (pr:List (Nat×Nat)) (i:Nat):mkB pr pr.length i=true↔Smp pr i:=by
 unfold mkB Smp;rw [List.take_length,zCa]
theorem aGe (n:Nat) (hn:n<=1000000) (w:World):(Instr.makeSlice 175 (.int .i64 (n:Int)) (.int .i64 (n:Int))).run Tryz.prog w=.ok (.slice (some ⟨w.heap.size,0,none⟩) n n) (w.alloc (.cells (Array.replicate n (.bool false)) 4)):=by
 obtain ⟨i0,hi0,hz0,hz1,hz2⟩:=info_parts pB;have:=run_make (P:=Tryz.prog) w 175 4 i0 (.bool false) Tryz.underlying175 hi0 hz0 .i64 .i64 n n oM (Int.le_refl _) (by rw [hz2];omega) oM;rw [this,hz1];have e:madeCells #[.bool false] n=Array.replicate n (.bool false):=by apply Array.ext';rw [toList_madeCells_one];simp
 simp only [Value.cells,zBr,zBl];rw [e]
structure SampOk (C:List (Nat×Nat)) (rs:List Nat) (r N:Nat):Prop where
 right:∀k,k < C.length->aB C k < N+1/\aH C k < N+1/\rs[aB C k]?=some (aH C k)
 rise:∀k,k+1 < C.length->aB C k < aB C (k+1)
 zero:Smp C 0
 gap:pS (Smp C) r N
 len:rs.length=N+1
 rate:1<=r
theorem aDo (A1 A2:Option Addr) (m c1 n c2 B1 B2:Nat) (C:List (Nat×Nat)) (rs:List Nat) (r N:Nat) (w:World) (h1:Rd w B1 2 A1 m (bS C)) (h2:Rd w B2 1 A2 n (rs.map sv)) (b1:B1<=w.heap.size) (b2:B2<=w.heap.size)
 (hC:C.length=m) (hn:N+1=n) (hm:m<=1000) (hN:N<=1000) (hr:r<=64) (hok:SampOk C rs r N):
 Calls Tryz.prog 69 #[.slice A1 m c1,.slice A2 n c2,(r:Int)] w fun e w'=>e=.returned (.bool true)/\Below w.heap.size w w':=by
 obtain ⟨gb,hgb⟩:=eqx w.heap.size;obtain ⟨W,hW⟩:=eqx (w.alloc (.cells (Array.replicate n (.bool false)) 4));have hbk0:Bk W gb 4 (mkV C n 0):=by rw [aIw,<-hW,<-hgb];exact Bk.new _ _ _
 have hb0:Below gb w W:=by rw [<-hW,<-hgb];exact bR.alloc nL _
 have hn0:0 < n:=oM;obtain ⟨gr,orr,rfl,hgr,hrc⟩:=(h2.mono b2).2 hn0;have hrow:∀k,k < m->∀wr,Below gb w wr->wr.cell? ⟨gr,orr+aB C k,none⟩=some (.int .i64 ((aH C k:Nat):Int)):=fun k hk wr hw=>by rw [hgb] at hgr;refine (hw.cell hgr).trans (hrc _ _ ?_);rw [zAf,(hok.right k oM).2.2];rfl
 have hpr:∃gp op,0 < m->A1=some ⟨gp,op,none⟩/\∀k,k < m->∀wr,Below gb w wr->wr.cell? ⟨gp,op+k*2,none⟩=some (.int .i64 ((aB C k:Nat):Int))/\wr.cell? ⟨gp,op+k*2+1,none⟩=some (.int .i64 ((aH C k:Nat):Int)):=by rcases zBa m with h0 | h0;exact ⟨0,0,fun h=>by omega⟩;obtain ⟨gp,op,e,hgp,hpc⟩:=(h1.mono b1).2 h0;rw [hgb] at hgp;refine ⟨gp,op,fun _=>⟨e,fun k hk wr hw=>?_⟩⟩;obtain ⟨p0,p1⟩:=cF C k oM;exact ⟨(hw.cell hgp).trans (hpc _ _ p0),(hw.cell hgp).trans (hpc _ _ p1)⟩
 obtain ⟨gp,op,hpr⟩:=hpr;have hmk:=aGe n oM;have hn9:n<=1001:=oM;obtain ⟨Hrow,Hpr,Hok,HW,Hgb,Hbk0,Hb0,HC,Hn⟩:=hqq9 hrow hpr hok hW hgb hbk0 hb0 hC hn;clear hrow hpr hok hW hgb hbk0 hb0 hC hn h1 h2 hgr hrc b1 b2;go_enter Tryz.func69,Tryz.ntmps69;rw [Hgb.out];go_wp2_with fail;rw [HW.out]
 try rw [Hgb.out]
 clear hmk;go_loopw [8] (fun i wr=>∃k:Nat,k<=m/\i=.int .i64 (k:Int)/\Bk wr gb 4 (mkV C n k)/\Below gb w wr) (fun i _=>m -(intOf i).toNat)
 case atStart=>exact ⟨0,zAp _,rfl,Hbk0.out,Hb0.out⟩
 case round=>
  obtain ⟨k,hk,rfl,hbk,hb⟩:=hrel;by_cases hlt:k < m
  · obtain ⟨e1,hpc⟩:=Hpr.out oM;subst e1;obtain ⟨d0,d1⟩:=hpc k hlt wr hb;have d2:=Hrow.out k hlt wr hb;have hNn:=Hn.out;obtain ⟨r1,r2,r3⟩:=Hok.out.right k (by rw [HC.out];exact hlt);obtain ⟨x,hx⟩:∃x,C[k]?=some x:=⟨_,zAa (by rw [HC.out];exact hlt)⟩;obtain ⟨a1,ha1⟩:∃a,aB C k=a:=⟨_,rfl⟩;obtain ⟨a2,ha2⟩:∃a,aH C k=a:=⟨_,rfl⟩;have hx2:x.2=a2:=(by rw [<-ha2];unfold aH;rw [zAb,hx];rfl);have hset:=hbk.set a2 (.bool true);rw [<-hx2,aFz hx,hx2] at hset;rw [ha1] at d0 d2 r1;rw [ha2] at d1 d2 r2;have fa:=hbk.frozen a2;have ca:wr.cell? ⟨gb,a2,none⟩=some (.bool (mkB C k a2)):=(hbk.cell a2).trans (mM C k oM);have hbs:=hb.setCell (p:=⟨gb,a2,none⟩) nL (.bool true);have g1:decide ((a1:Int)>=(n:Int))=false:=zBy oM;have g1':decide (n<=a1)=false:=zBy oM;have i1:(a1:Int) < (n:Int):=oM;have i2:(a2:Int) < (n:Int):=oM;have i3:(k:Int) < (m:Int):=oM;have hmkv:(mkV C n k).setIfInBounds a2 (.bool true)=mkV C n (k+1):=(by rw [<-hx2];exact aFz hx);obtain ⟨Hmk,Ha2⟩:=hqq2 hmkv (show a2 < n by omega);have hsz:gb<=wr.heap.size:=(by rw [<-Hgb.out];exact hb.size);clear hmkv;by_cases hk0:k=0
    · have g2:decide ((k:Int) > 0)=false:=zBy oM;have g2':decide (0 < k)=false:=zBy oM;have hA:∀w5,Grow wr w5->w5.cell? ⟨gp,op+k*2,none⟩=some (.int .i64 (a1:Int))/\w5.cell? ⟨gp,op+k*2+1,none⟩=some (.int .i64 (a2:Int))/\w5.cell? ⟨gr,orr+a1,none⟩=some (.int .i64 (a2:Int)):=fun w5 hS=>by have hw5:=hb.trans (hS.mono hsz);obtain ⟨x0,x1⟩:=hpc k hlt w5 hw5;have x2:=Hrow.out k hlt w5 hw5;rw [ha1] at x0 x2;rw [ha2] at x1 x2;exact ⟨x0,x1,x2⟩
      obtain ⟨HA,Hb,Hbk⟩:=hqq3 hA hb hbk;clear hA hNn hpc r1 r2 r3 hx hx2 ha1 ha2 hbk hb hset hbs hk hk0 d0 d1 d2 fa ca;go_wp2_with fail;refine wp_region_any kR ?_;refine aO [20,21,22,23,24,25,26,27,28,29,30,31,32,33,34,35,36,37,38,39,40,41,42,43,44,45,46,47,48,49,50,51,52,53,54,55,56,57,58,59,60,61,62,63,64,65,66,67,68,69] Grow (Vs [is (.slice (some ⟨gp,op,none⟩) m c1),is (k:Int),is (.pointer (some ⟨gp,op+k*2,none⟩)),is (.pointer (some ⟨gp,op+k*2,none⟩)),is (a1:Int),is (.bool false),is (.bool false),is (.slice (some ⟨gp,op,none⟩) m c1),is (k:Int),is (.pointer (some ⟨gp,op+k*2,none⟩)),is (.pointer (some ⟨gp,op+k*2,none⟩)),is (a1:Int),is (.slice (some ⟨gr,orr,none⟩) n c2),is (n:Int),is (.bool false),is (.bool false),is (.bool false),is (.slice (some ⟨gr,orr,none⟩) n c2),is (.slice (some ⟨gp,op,none⟩) m c1),is (k:Int),is (.pointer (some ⟨gp,op+k*2,none⟩)),is (.pointer (some ⟨gp,op+k*2,none⟩)),is (a1:Int),is (.pointer (some ⟨gr,orr+a1,none⟩)),is (a2:Int),is (.slice (some ⟨gp,op,none⟩) m c1),is (k:Int),is (.pointer (some ⟨gp,op+k*2,none⟩)),is (.pointer (some ⟨gp,op+k*2+1,none⟩)),is (a2:Int),is (.bool false),is (.bool false),is (.bool false),is (k:Int),is (.bool false),is (.bool false),is undef,is undef,is undef,is undef,is undef,is undef,is undef,is undef,is undef,is undef,is undef,is undef,is (.bool false),is (.bool false)]) _ _ rfl kR bR (fun _ _=>Grow.trans) (eU tA2) ?_ ?_
      · refine aM ?_;refine sC (fun ev _ _ _ _ hold _ _ _ _ hK=>?_) ?_
        · have e0:ev (.tmp 0)=.slice (some ⟨gp,op,none⟩) m c1:=hold 0 kR;go_simp;exact hK _ _ bR rfl
        refine sC (fun ev _ _ _ _ hold _ _ _ _ hK=>?_) ?_
        · have e8:ev (.tmp 8)=.int .i64 (k:Int):=hold 8 kR;go_simp;exact hK _ _ bR rfl
        refine sC (fun _ _ _ _ _ _ hval _ _ _ hK=>?_) ?_
        · have e20:_=_:=hval 0 20 kR rfl;have e21:_=_:=hval 1 21 kR rfl;go_simp;exact hK _ _ bR rfl
        refine sC (fun _ _ _ _ _ _ hval _ _ _ hK=>?_) ?_
        · have e22:_=_:=hval 2 22 kR rfl;go_simp;exact hK _ _ bR rfl
        refine sC (fun _ w5 hS _ _ _ hval _ _ _ hK=>?_) ?_
        · have e23:_=_:=hval 3 23 kR rfl;replace hS:Grow wr w5:=⟨hS.os,hS.tape,hS.output,hS.size,hS.block⟩;obtain ⟨k0,k1,k2⟩:=HA.out w5 hS;go_simp;exact hK _ _ bR rfl
        refine sC (fun _ _ _ _ _ _ hval _ _ _ hK=>?_) ?_
        · have e24:_=_:=hval 4 24 kR rfl;go_simp;exact hK _ _ bR rfl
        refine sC (fun _ _ _ _ _ _ hval _ _ _ hK=>?_) ?_
        · have e25:_=_:=hval 5 25 kR rfl;go_simp;exact hK _ _ bR rfl
        refine sG 26 false (fun ev _ _ _ _ hold _ _ _ _ hK=>?_) ?_
        · have e0:ev (.tmp 0)=.slice (some ⟨gp,op,none⟩) m c1:=hold 0 kR;go_simp;exact hK _ _ bR rfl
        refine sG 26 false (fun ev _ _ _ _ hold _ _ _ _ hK=>?_) ?_
        · have e8:ev (.tmp 8)=.int .i64 (k:Int):=hold 8 kR;go_simp;exact hK _ _ bR rfl
        refine sG 26 false (fun _ _ _ _ _ _ hval _ _ _ hK=>?_) ?_
        · have e27:_=_:=hval 7 27 kR rfl;have e28:_=_:=hval 8 28 kR rfl;go_simp;exact hK _ _ bR rfl
        refine sG 26 false (fun _ _ _ _ _ _ hval _ _ _ hK=>?_) ?_
        · have e29:_=_:=hval 9 29 kR rfl;go_simp;exact hK _ _ bR rfl
        refine sG 26 false (fun _ w5 hS _ _ _ hval _ _ _ hK=>?_) ?_
        · have e30:_=_:=hval 10 30 kR rfl;replace hS:Grow wr w5:=⟨hS.os,hS.tape,hS.output,hS.size,hS.block⟩;obtain ⟨k0,k1,k2⟩:=HA.out w5 hS;go_simp;exact hK _ _ bR rfl
        refine sG 26 false (fun ev _ _ _ _ hold _ _ _ _ hK=>?_) ?_
        · have e1:ev (.tmp 1)=.slice (some ⟨gr,orr,none⟩) n c2:=hold 1 kR;go_simp;exact hK _ _ bR rfl
        refine sG 26 false (fun _ _ _ _ _ _ hval _ _ _ hK=>?_) ?_
        · have e32:_=_:=hval 12 32 kR rfl;go_simp;exact hK _ _ bR rfl
        refine sG 26 false (fun _ _ _ _ _ _ hval _ _ _ hK=>?_) ?_
        · have e31:_=_:=hval 11 31 kR rfl;have e33:_=_:=hval 13 33 kR rfl;go_simp;exact hK _ _ bR rfl
        refine sC (fun _ _ _ _ _ _ hval _ _ _ hK=>?_) ?_
        · have e26:_=_:=hval 6 26 kR rfl;have e34:_=_:=hval 14 34 kR rfl;go_simp;exact hK _ _ bR rfl
        refine sC (fun _ _ _ _ _ _ hval _ _ _ hK=>?_) ?_
        · have e35:_=_:=hval 15 35 kR rfl;go_simp;exact hK _ _ bR rfl
        refine sG 36 false (fun ev _ _ _ _ hold _ _ _ _ hK=>?_) ?_
        · have e1:ev (.tmp 1)=.slice (some ⟨gr,orr,none⟩) n c2:=hold 1 kR;go_simp;exact hK _ _ bR rfl
        refine sG 36 false (fun ev _ _ _ _ hold _ _ _ _ hK=>?_) ?_
        · have e0:ev (.tmp 0)=.slice (some ⟨gp,op,none⟩) m c1:=hold 0 kR;go_simp;exact hK _ _ bR rfl
        refine sG 36 false (fun ev _ _ _ _ hold _ _ _ _ hK=>?_) ?_
        · have e8:ev (.tmp 8)=.int .i64 (k:Int):=hold 8 kR;go_simp;exact hK _ _ bR rfl
        refine sG 36 false (fun _ _ _ _ _ _ hval _ _ _ hK=>?_) ?_
        · have e38:_=_:=hval 18 38 kR rfl;have e39:_=_:=hval 19 39 kR rfl;go_simp;exact hK _ _ bR rfl
        refine sG 36 false (fun _ _ _ _ _ _ hval _ _ _ hK=>?_) ?_
        · have e40:_=_:=hval 20 40 kR rfl;go_simp;exact hK _ _ bR rfl
        refine sG 36 false (fun _ w5 hS _ _ _ hval _ _ _ hK=>?_) ?_
        · have e41:_=_:=hval 21 41 kR rfl;replace hS:Grow wr w5:=⟨hS.os,hS.tape,hS.output,hS.size,hS.block⟩;obtain ⟨k0,k1,k2⟩:=HA.out w5 hS;go_simp;exact hK _ _ bR rfl
        refine sG 36 false (fun _ _ _ _ _ _ hval _ _ _ hK=>?_) ?_
        · have e37:_=_:=hval 17 37 kR rfl;have e42:_=_:=hval 22 42 kR rfl;go_simp;exact hK _ _ bR rfl
        refine sG 36 false (fun _ w5 hS _ _ _ hval _ _ _ hK=>?_) ?_
        · have e43:_=_:=hval 23 43 kR rfl;replace hS:Grow wr w5:=⟨hS.os,hS.tape,hS.output,hS.size,hS.block⟩;obtain ⟨k0,k1,k2⟩:=HA.out w5 hS;go_simp;exact hK _ _ bR rfl
        refine sG 36 false (fun ev _ _ _ _ hold _ _ _ _ hK=>?_) ?_
        · have e0:ev (.tmp 0)=.slice (some ⟨gp,op,none⟩) m c1:=hold 0 kR;go_simp;exact hK _ _ bR rfl
        refine sG 36 false (fun ev _ _ _ _ hold _ _ _ _ hK=>?_) ?_
        · have e8:ev (.tmp 8)=.int .i64 (k:Int):=hold 8 kR;go_simp;exact hK _ _ bR rfl
        refine sG 36 false (fun _ _ _ _ _ _ hval _ _ _ hK=>?_) ?_
        · have e45:_=_:=hval 25 45 kR rfl;have e46:_=_:=hval 26 46 kR rfl;go_simp;exact hK _ _ bR rfl
        refine sG 36 false (fun _ _ _ _ _ _ hval _ _ _ hK=>?_) ?_
        · have e47:_=_:=hval 27 47 kR rfl;go_simp;exact hK _ _ bR rfl
        refine sG 36 false (fun _ w5 hS _ _ _ hval _ _ _ hK=>?_) ?_
        · have e48:_=_:=hval 28 48 kR rfl;replace hS:Grow wr w5:=⟨hS.os,hS.tape,hS.output,hS.size,hS.block⟩;obtain ⟨k0,k1,k2⟩:=HA.out w5 hS;go_simp;exact hK _ _ bR rfl
        refine sG 36 false (fun _ _ _ _ _ _ hval _ _ _ hK=>?_) ?_
        · have e44:_=_:=hval 24 44 kR rfl;have e49:_=_:=hval 29 49 kR rfl;go_simp;exact hK _ _ bR rfl
        refine sC (fun _ _ _ _ _ _ hval _ _ _ hK=>?_) ?_
        · have e36:_=_:=hval 16 36 kR rfl;have e50:_=_:=hval 30 50 kR rfl;go_simp;exact hK _ _ bR rfl
        refine sC (fun _ _ _ _ _ _ hval _ _ _ hK=>?_) ?_
        · have e51:_=_:=hval 31 51 kR rfl;go_simp;exact hK _ _ bR rfl
        refine sG 52 false (fun ev _ _ _ _ hold _ _ _ _ hK=>?_) ?_
        · have e8:ev (.tmp 8)=.int .i64 (k:Int):=hold 8 kR;go_simp;exact hK _ _ bR rfl
        refine sG 52 false (fun _ _ _ _ _ _ hval _ _ _ hK=>?_) ?_
        · have e53:_=_:=hval 33 53 kR rfl;go_simp;exact hK _ _ bR rfl
        refine sG 52 false (fun _ _ _ _ _ _ hval _ _ _ hK=>?_) ?_
        · have e54:_=_:=hval 34 54 kR rfl;go_simp;exact hK _ _ bR rfl
        refine aD ?_ ?_;exact dJ (d:=55) (b:=false) rfl rfl rfl kR (fun _ _ _ h=>h) (fun _=>Below.refl _ _) (fun _=>rfl);refine aD ?_ ?_;exact dJ (d:=55) (b:=false) rfl rfl rfl kR (fun _ _ _ h=>h) (fun _=>Below.refl _ _) (fun _=>rfl);refine aD ?_ ?_;exact dJ (d:=55) (b:=false) rfl rfl rfl kR (fun _ _ _ h=>h) (fun _=>Below.refl _ _) (fun _=>rfl);refine aD ?_ ?_;exact dJ (d:=55) (b:=false) rfl rfl rfl kR (fun _ _ _ h=>h) (fun _=>Below.refl _ _) (fun _=>rfl);refine aD ?_ ?_;exact dJ (d:=55) (b:=false) rfl rfl rfl kR (fun _ _ _ h=>h) (fun _=>Below.refl _ _) (fun _=>rfl);refine aD ?_ ?_;exact dJ (d:=55) (b:=false) rfl rfl rfl kR (fun _ _ _ h=>h) (fun _=>Below.refl _ _) (fun _=>rfl);refine aD ?_ ?_;exact dJ (d:=55) (b:=false) rfl rfl rfl kR (fun _ _ _ h=>h) (fun _=>Below.refl _ _) (fun _=>rfl);refine aD ?_ ?_;exact dJ (d:=55) (b:=false) rfl rfl rfl kR (fun _ _ _ h=>h) (fun _=>Below.refl _ _) (fun _=>rfl);refine aD ?_ ?_;exact dJ (d:=55) (b:=false) rfl rfl rfl kR (fun _ _ _ h=>h) (fun _=>Below.refl _ _) (fun _=>rfl);refine aD ?_ ?_;exact dJ (d:=55) (b:=false) rfl rfl rfl kR (fun _ _ _ h=>h) (fun _=>Below.refl _ _) (fun _=>rfl);refine aD ?_ ?_;exact dJ (d:=55) (b:=false) rfl rfl rfl kR (fun _ _ _ h=>h) (fun _=>Below.refl _ _) (fun _=>rfl);refine aD ?_ ?_;exact dJ (d:=55) (b:=false) rfl rfl rfl kR (fun _ _ _ h=>h) (fun _=>Below.refl _ _) (fun _=>rfl);refine sG 52 false (fun _ _ _ _ _ _ hval _ _ _ hK=>?_) ?_
        · have e55:_=_:=hval 35 55 kR rfl;have e67:_=_:=hval 47 67 kR rfl;go_simp;exact hK _ _ bR rfl
        refine sC (fun _ _ _ _ _ _ hval _ _ _ hK=>?_) ?_
        · have e52:_=_:=hval 32 52 kR rfl;have e68:_=_:=hval 48 68 kR rfl;go_simp;exact hK _ _ bR rfl
        exact aC
      · intro ev w6 hS hval;replace hS:Grow wr w6:=⟨hS.os,hS.tape,hS.output,hS.size,hS.block⟩;have e69:ev (.tmp 69)=.bool false:=hval 49 69 rfl;simp only [aI,zq1,zq2,Act.put,zq3,zq4,zq5];rw [e69];clear hval;have hb6:=Hb.out.trans (hS.mono hsz);have hbk6:=Hbk.out.below hS Hbk.out.lt;obtain ⟨k0,k1,k2⟩:=HA.out w6 hS;have fa:=hbk6.frozen a2;have ca:w6.cell? ⟨gb,a2,none⟩=some (.bool (mkB C k a2)):=(hbk6.cell a2).trans (mM C k Ha2.out);have hset:=hbk6.set a2 (.bool true);rw [Hmk.out] at hset;have hbs:=hb6.setCell (p:=⟨gb,a2,none⟩) nL (.bool true);obtain ⟨Hset,Hbs⟩:=hqq2 hset hbs;clear hS hb6 hbk6 hset hbs;go_wp2_with fail;go_roundw
        case rel=>exact ⟨k+1,by omega,by go_num,Hset.out,Hbs.out⟩
        case measure=>simp [intOf];omega
    · have hrise:=Hok.out.rise (k - 1) (by rw [HC.out];omega);rw [show k - 1+1=k by omega,ha1] at hrise;obtain ⟨p0,p1⟩:=hpc (k - 1) oM wr hb;obtain ⟨a0,ha0⟩:∃a,aB C (k - 1)=a:=⟨_,rfl⟩;rw [ha0] at p0 hrise;have g2:decide ((k:Int) > 0)=true:=zBz oM;have g2':decide (0 < k)=true:=zBz oM;obtain ⟨q,hq⟩:=eqx (k - 1);rw [hq] at p0;have e1:IntKind.i64.wrap ((k:Int) - 1)=(q:Int):=(by rw [IntKind.wrap_i64];omega);have g3:decide ((a1:Int)<=(a0:Int))=false:=zBy oM;have g3':decide (a1<=a0)=false:=zBy oM;have i4:(q:Int) < (m:Int):=oM;have hA:∀w5,Grow wr w5->w5.cell? ⟨gp,op+k*2,none⟩=some (.int .i64 (a1:Int))/\w5.cell? ⟨gp,op+k*2+1,none⟩=some (.int .i64 (a2:Int))/\w5.cell? ⟨gr,orr+a1,none⟩=some (.int .i64 (a2:Int))/\w5.cell? ⟨gp,op+q*2,none⟩=some (.int .i64 (a0:Int)):=fun w5 hS=>by have hw5:=hb.trans (hS.mono hsz);obtain ⟨x0,x1⟩:=hpc k hlt w5 hw5;have x2:=Hrow.out k hlt w5 hw5;have x3:=(hpc (k - 1) oM w5 hw5).1;rw [ha1] at x0 x2;rw [ha2] at x1 x2;rw [ha0,hq] at x3;exact ⟨x0,x1,x2,x3⟩
      obtain ⟨HA,Hb,Hbk⟩:=hqq3 hA hb hbk;clear hA hNn hpc r1 r2 r3 hx hx2 ha1 ha2 hbk hb hset hbs hk hk0 hrise ha0 hq p0 p1 d0 d1 d2 fa ca;go_wp2_with fail;refine wp_region_any kR ?_;refine aO [20,21,22,23,24,25,26,27,28,29,30,31,32,33,34,35,36,37,38,39,40,41,42,43,44,45,46,47,48,49,50,51,52,53,54,55,56,57,58,59,60,61,62,63,64,65,66,67,68,69] Grow (Vs [is (.slice (some ⟨gp,op,none⟩) m c1),is (k:Int),is (.pointer (some ⟨gp,op+k*2,none⟩)),is (.pointer (some ⟨gp,op+k*2,none⟩)),is (a1:Int),is (.bool false),is (.bool false),is (.slice (some ⟨gp,op,none⟩) m c1),is (k:Int),is (.pointer (some ⟨gp,op+k*2,none⟩)),is (.pointer (some ⟨gp,op+k*2,none⟩)),is (a1:Int),is (.slice (some ⟨gr,orr,none⟩) n c2),is (n:Int),is (.bool false),is (.bool false),is (.bool false),is (.slice (some ⟨gr,orr,none⟩) n c2),is (.slice (some ⟨gp,op,none⟩) m c1),is (k:Int),is (.pointer (some ⟨gp,op+k*2,none⟩)),is (.pointer (some ⟨gp,op+k*2,none⟩)),is (a1:Int),is (.pointer (some ⟨gr,orr+a1,none⟩)),is (a2:Int),is (.slice (some ⟨gp,op,none⟩) m c1),is (k:Int),is (.pointer (some ⟨gp,op+k*2,none⟩)),is (.pointer (some ⟨gp,op+k*2+1,none⟩)),is (a2:Int),is (.bool false),is (.bool false),is (.bool false),is (k:Int),is (.bool true),is (.bool true),is (.slice (some ⟨gp,op,none⟩) m c1),is (k:Int),is (.pointer (some ⟨gp,op+k*2,none⟩)),is (.pointer (some ⟨gp,op+k*2,none⟩)),is (a1:Int),is (.slice (some ⟨gp,op,none⟩) m c1),is (k:Int),is (q:Int),is (.pointer (some ⟨gp,op+q*2,none⟩)),is (.pointer (some ⟨gp,op+q*2,none⟩)),is (a0:Int),is (.bool false),is (.bool false),is (.bool false)]) _ _ rfl kR bR (fun _ _=>Grow.trans) (eU tA2) ?_ ?_
      · refine aM ?_;refine sC (fun ev _ _ _ _ hold _ _ _ _ hK=>?_) ?_
        · have e0:ev (.tmp 0)=.slice (some ⟨gp,op,none⟩) m c1:=hold 0 kR;go_simp;exact hK _ _ bR rfl
        refine sC (fun ev _ _ _ _ hold _ _ _ _ hK=>?_) ?_
        · have e8:ev (.tmp 8)=.int .i64 (k:Int):=hold 8 kR;go_simp;exact hK _ _ bR rfl
        refine sC (fun _ _ _ _ _ _ hval _ _ _ hK=>?_) ?_
        · have e20:_=_:=hval 0 20 kR rfl;have e21:_=_:=hval 1 21 kR rfl;go_simp;exact hK _ _ bR rfl
        refine sC (fun _ _ _ _ _ _ hval _ _ _ hK=>?_) ?_
        · have e22:_=_:=hval 2 22 kR rfl;go_simp;exact hK _ _ bR rfl
        refine sC (fun _ w5 hS _ _ _ hval _ _ _ hK=>?_) ?_
        · have e23:_=_:=hval 3 23 kR rfl;replace hS:Grow wr w5:=⟨hS.os,hS.tape,hS.output,hS.size,hS.block⟩;obtain ⟨k0,k1,k2,k3⟩:=HA.out w5 hS;go_simp;exact hK _ _ bR rfl
        refine sC (fun _ _ _ _ _ _ hval _ _ _ hK=>?_) ?_
        · have e24:_=_:=hval 4 24 kR rfl;go_simp;exact hK _ _ bR rfl
        refine sC (fun _ _ _ _ _ _ hval _ _ _ hK=>?_) ?_
        · have e25:_=_:=hval 5 25 kR rfl;go_simp;exact hK _ _ bR rfl
        refine sG 26 false (fun ev _ _ _ _ hold _ _ _ _ hK=>?_) ?_
        · have e0:ev (.tmp 0)=.slice (some ⟨gp,op,none⟩) m c1:=hold 0 kR;go_simp;exact hK _ _ bR rfl
        refine sG 26 false (fun ev _ _ _ _ hold _ _ _ _ hK=>?_) ?_
        · have e8:ev (.tmp 8)=.int .i64 (k:Int):=hold 8 kR;go_simp;exact hK _ _ bR rfl
        refine sG 26 false (fun _ _ _ _ _ _ hval _ _ _ hK=>?_) ?_
        · have e27:_=_:=hval 7 27 kR rfl;have e28:_=_:=hval 8 28 kR rfl;go_simp;exact hK _ _ bR rfl
        refine sG 26 false (fun _ _ _ _ _ _ hval _ _ _ hK=>?_) ?_
        · have e29:_=_:=hval 9 29 kR rfl;go_simp;exact hK _ _ bR rfl
        refine sG 26 false (fun _ w5 hS _ _ _ hval _ _ _ hK=>?_) ?_
        · have e30:_=_:=hval 10 30 kR rfl;replace hS:Grow wr w5:=⟨hS.os,hS.tape,hS.output,hS.size,hS.block⟩;obtain ⟨k0,k1,k2,k3⟩:=HA.out w5 hS;go_simp;exact hK _ _ bR rfl
        refine sG 26 false (fun ev _ _ _ _ hold _ _ _ _ hK=>?_) ?_
        · have e1:ev (.tmp 1)=.slice (some ⟨gr,orr,none⟩) n c2:=hold 1 kR;go_simp;exact hK _ _ bR rfl
        refine sG 26 false (fun _ _ _ _ _ _ hval _ _ _ hK=>?_) ?_
        · have e32:_=_:=hval 12 32 kR rfl;go_simp;exact hK _ _ bR rfl
        refine sG 26 false (fun _ _ _ _ _ _ hval _ _ _ hK=>?_) ?_
        · have e31:_=_:=hval 11 31 kR rfl;have e33:_=_:=hval 13 33 kR rfl;go_simp;exact hK _ _ bR rfl
        refine sC (fun _ _ _ _ _ _ hval _ _ _ hK=>?_) ?_
        · have e26:_=_:=hval 6 26 kR rfl;have e34:_=_:=hval 14 34 kR rfl;go_simp;exact hK _ _ bR rfl
        refine sC (fun _ _ _ _ _ _ hval _ _ _ hK=>?_) ?_
        · have e35:_=_:=hval 15 35 kR rfl;go_simp;exact hK _ _ bR rfl
        refine sG 36 false (fun ev _ _ _ _ hold _ _ _ _ hK=>?_) ?_
        · have e1:ev (.tmp 1)=.slice (some ⟨gr,orr,none⟩) n c2:=hold 1 kR;go_simp;exact hK _ _ bR rfl
        refine sG 36 false (fun ev _ _ _ _ hold _ _ _ _ hK=>?_) ?_
        · have e0:ev (.tmp 0)=.slice (some ⟨gp,op,none⟩) m c1:=hold 0 kR;go_simp;exact hK _ _ bR rfl
        refine sG 36 false (fun ev _ _ _ _ hold _ _ _ _ hK=>?_) ?_
        · have e8:ev (.tmp 8)=.int .i64 (k:Int):=hold 8 kR;go_simp;exact hK _ _ bR rfl
        refine sG 36 false (fun _ _ _ _ _ _ hval _ _ _ hK=>?_) ?_
        · have e38:_=_:=hval 18 38 kR rfl;have e39:_=_:=hval 19 39 kR rfl;go_simp;exact hK _ _ bR rfl
        refine sG 36 false (fun _ _ _ _ _ _ hval _ _ _ hK=>?_) ?_
        · have e40:_=_:=hval 20 40 kR rfl;go_simp;exact hK _ _ bR rfl
        refine sG 36 false (fun _ w5 hS _ _ _ hval _ _ _ hK=>?_) ?_
        · have e41:_=_:=hval 21 41 kR rfl;replace hS:Grow wr w5:=⟨hS.os,hS.tape,hS.output,hS.size,hS.block⟩;obtain ⟨k0,k1,k2,k3⟩:=HA.out w5 hS;go_simp;exact hK _ _ bR rfl
        refine sG 36 false (fun _ _ _ _ _ _ hval _ _ _ hK=>?_) ?_
        · have e37:_=_:=hval 17 37 kR rfl;have e42:_=_:=hval 22 42 kR rfl;go_simp;exact hK _ _ bR rfl
        refine sG 36 false (fun _ w5 hS _ _ _ hval _ _ _ hK=>?_) ?_
        · have e43:_=_:=hval 23 43 kR rfl;replace hS:Grow wr w5:=⟨hS.os,hS.tape,hS.output,hS.size,hS.block⟩;obtain ⟨k0,k1,k2,k3⟩:=HA.out w5 hS;go_simp;exact hK _ _ bR rfl
        refine sG 36 false (fun ev _ _ _ _ hold _ _ _ _ hK=>?_) ?_
        · have e0:ev (.tmp 0)=.slice (some ⟨gp,op,none⟩) m c1:=hold 0 kR;go_simp;exact hK _ _ bR rfl
        refine sG 36 false (fun ev _ _ _ _ hold _ _ _ _ hK=>?_) ?_
        · have e8:ev (.tmp 8)=.int .i64 (k:Int):=hold 8 kR;go_simp;exact hK _ _ bR rfl
        refine sG 36 false (fun _ _ _ _ _ _ hval _ _ _ hK=>?_) ?_
        · have e45:_=_:=hval 25 45 kR rfl;have e46:_=_:=hval 26 46 kR rfl;go_simp;exact hK _ _ bR rfl
        refine sG 36 false (fun _ _ _ _ _ _ hval _ _ _ hK=>?_) ?_
        · have e47:_=_:=hval 27 47 kR rfl;go_simp;exact hK _ _ bR rfl
        refine sG 36 false (fun _ w5 hS _ _ _ hval _ _ _ hK=>?_) ?_
        · have e48:_=_:=hval 28 48 kR rfl;replace hS:Grow wr w5:=⟨hS.os,hS.tape,hS.output,hS.size,hS.block⟩;obtain ⟨k0,k1,k2,k3⟩:=HA.out w5 hS;go_simp;exact hK _ _ bR rfl
        refine sG 36 false (fun _ _ _ _ _ _ hval _ _ _ hK=>?_) ?_
        · have e44:_=_:=hval 24 44 kR rfl;have e49:_=_:=hval 29 49 kR rfl;go_simp;exact hK _ _ bR rfl
        refine sC (fun _ _ _ _ _ _ hval _ _ _ hK=>?_) ?_
        · have e36:_=_:=hval 16 36 kR rfl;have e50:_=_:=hval 30 50 kR rfl;go_simp;exact hK _ _ bR rfl
        refine sC (fun _ _ _ _ _ _ hval _ _ _ hK=>?_) ?_
        · have e51:_=_:=hval 31 51 kR rfl;go_simp;exact hK _ _ bR rfl
        refine sG 52 false (fun ev _ _ _ _ hold _ _ _ _ hK=>?_) ?_
        · have e8:ev (.tmp 8)=.int .i64 (k:Int):=hold 8 kR;go_simp;exact hK _ _ bR rfl
        refine sG 52 false (fun _ _ _ _ _ _ hval _ _ _ hK=>?_) ?_
        · have e53:_=_:=hval 33 53 kR rfl;go_simp;exact hK _ _ bR rfl
        refine sG 52 false (fun _ _ _ _ _ _ hval _ _ _ hK=>?_) ?_
        · have e54:_=_:=hval 34 54 kR rfl;go_simp;exact hK _ _ bR rfl
        refine sG 55 true (fun ev _ _ _ _ hold _ _ _ _ hK=>?_) ?_
        · have e0:ev (.tmp 0)=.slice (some ⟨gp,op,none⟩) m c1:=hold 0 kR;go_simp;exact hK _ _ bR rfl
        refine sG 55 true (fun ev _ _ _ _ hold _ _ _ _ hK=>?_) ?_
        · have e8:ev (.tmp 8)=.int .i64 (k:Int):=hold 8 kR;go_simp;exact hK _ _ bR rfl
        refine sG 55 true (fun _ _ _ _ _ _ hval _ _ _ hK=>?_) ?_
        · have e56:_=_:=hval 36 56 kR rfl;have e57:_=_:=hval 37 57 kR rfl;go_simp;exact hK _ _ bR rfl
        refine sG 55 true (fun _ _ _ _ _ _ hval _ _ _ hK=>?_) ?_
        · have e58:_=_:=hval 38 58 kR rfl;go_simp;exact hK _ _ bR rfl
        refine sG 55 true (fun _ w5 hS _ _ _ hval _ _ _ hK=>?_) ?_
        · have e59:_=_:=hval 39 59 kR rfl;replace hS:Grow wr w5:=⟨hS.os,hS.tape,hS.output,hS.size,hS.block⟩;obtain ⟨k0,k1,k2,k3⟩:=HA.out w5 hS;go_simp;exact hK _ _ bR rfl
        refine sG 55 true (fun ev _ _ _ _ hold _ _ _ _ hK=>?_) ?_
        · have e0:ev (.tmp 0)=.slice (some ⟨gp,op,none⟩) m c1:=hold 0 kR;go_simp;exact hK _ _ bR rfl
        refine sG 55 true (fun ev _ _ _ _ hold _ _ _ _ hK=>?_) ?_
        · have e8:ev (.tmp 8)=.int .i64 (k:Int):=hold 8 kR;go_simp;exact hK _ _ bR rfl
        refine sG 55 true (fun _ _ _ _ _ _ hval _ _ _ hK=>?_) ?_
        · have e62:_=_:=hval 42 62 kR rfl;go_simp;exact hK _ _ bR rfl
        refine sG 55 true (fun _ _ _ _ _ _ hval _ _ _ hK=>?_) ?_
        · have e61:_=_:=hval 41 61 kR rfl;have e63:_=_:=hval 43 63 kR rfl;go_simp;exact hK _ _ bR rfl
        refine sG 55 true (fun _ _ _ _ _ _ hval _ _ _ hK=>?_) ?_
        · have e64:_=_:=hval 44 64 kR rfl;go_simp;exact hK _ _ bR rfl
        refine sG 55 true (fun _ w5 hS _ _ _ hval _ _ _ hK=>?_) ?_
        · have e65:_=_:=hval 45 65 kR rfl;replace hS:Grow wr w5:=⟨hS.os,hS.tape,hS.output,hS.size,hS.block⟩;obtain ⟨k0,k1,k2,k3⟩:=HA.out w5 hS;go_simp;exact hK _ _ bR rfl
        refine sG 55 true (fun _ _ _ _ _ _ hval _ _ _ hK=>?_) ?_
        · have e60:_=_:=hval 40 60 kR rfl;have e66:_=_:=hval 46 66 kR rfl;go_simp;exact hK _ _ bR rfl
        refine sG 52 false (fun _ _ _ _ _ _ hval _ _ _ hK=>?_) ?_
        · have e55:_=_:=hval 35 55 kR rfl;have e67:_=_:=hval 47 67 kR rfl;go_simp;exact hK _ _ bR rfl
        refine sC (fun _ _ _ _ _ _ hval _ _ _ hK=>?_) ?_
        · have e52:_=_:=hval 32 52 kR rfl;have e68:_=_:=hval 48 68 kR rfl;go_simp;exact hK _ _ bR rfl
        exact aC
      · intro ev w6 hS hval;replace hS:Grow wr w6:=⟨hS.os,hS.tape,hS.output,hS.size,hS.block⟩;have e69:ev (.tmp 69)=.bool false:=hval 49 69 rfl;simp only [aI,zq1,zq2,Act.put,zq3,zq4,zq5];rw [e69];clear hval;have hb6:=Hb.out.trans (hS.mono hsz);have hbk6:=Hbk.out.below hS Hbk.out.lt;obtain ⟨k0,k1,k2,k3⟩:=HA.out w6 hS;have fa:=hbk6.frozen a2;have ca:w6.cell? ⟨gb,a2,none⟩=some (.bool (mkB C k a2)):=(hbk6.cell a2).trans (mM C k Ha2.out);have hset:=hbk6.set a2 (.bool true);rw [Hmk.out] at hset;have hbs:=hb6.setCell (p:=⟨gb,a2,none⟩) nL (.bool true);obtain ⟨Hset,Hbs⟩:=hqq2 hset hbs;clear hS hb6 hbk6 hset hbs;go_wp2_with fail;go_roundw
        case rel=>exact ⟨k+1,by omega,by go_num,Hset.out,Hbs.out⟩
        case measure=>simp [intOf];omega
  · have hkm:k=m:=oM;subst hkm;have hS:∀i,mkB C k i=true↔Smp C i:=fun i=>by rw [<-HC.out];exact aJT C i
    obtain ⟨Hbk,Hb,HS⟩:=hqq3 hbk hb hS;clear hbk hb hS;go_wp2_with fail;go_loopw [9,10] (fun g i wr2=>∃j x:Nat,j<=n/\i=.int .i64 (j:Int)/\g=.int .i64 (x:Int)/\aAY (Smp C) j x/\x<=j/\wr2=wr) (fun _ i _=>n -(intOf i).toNat)
    case atStart=>exact ⟨0,0,zAp _,rfl,rfl,.inl ⟨rfl,rfl⟩,zAs _,rfl⟩
    case round=>
        obtain ⟨j,x,hj,rfl,rfl,hg,hxj,rfl⟩:=hrel;by_cases hjn:j < n
        · have cj:wr.cell? ⟨gb,j,none⟩=some (.bool (mkB C k j)):=(Hbk.out.cell j).trans (mM C k hjn);have i1:(j:Int) < (n:Int):=oM;have hNn:=Hn.out;obtain ⟨b,hb⟩:=eqx (mkB C k j);rw [hb] at cj;have hSj:=HS.out j;rw [hb] at hSj;cases b with
          | true=>
            have hgy:aAY (Smp C) (j+1) 0:=aJZ (hSj.1 rfl);have h0r:=Hok.out.rate;have g1:decide ((0:Int)>=(r:Int))=false:=zBy oM;have g1':decide (r=0)=false:=zBy oM;have Hgy:=lhd hgy;clear hNn hb hSj hgy hg;go_wp2_with fail;go_roundw
            case rel=>exact ⟨j+1,0,by omega,by go_num,by first | rfl | trivial,Hgy.out,zAp _,by first | rfl | trivial⟩
            case measure=>simp [intOf];omega
          | false=>
            have hno:¬Smp C j:=fun f=>by have:=hSj.2 f;cases this
            have hgn:=aKU Hok.out.zero hno hg;have hlt:=aKV Hok.out.gap Hok.out.rate hgn oM;have e1:((x+1:Nat):Int)=(x:Int)+1:=oM;have g1:decide ((x:Int)+1>=(r:Int))=false:=zBy oM;have g1':decide (r<=x+1)=false:=zBy oM;have Hgn:=lhd hgn;clear hNn hb hSj hgn hg hno;go_wp2_with fail;go_roundw
            case rel=>exact ⟨j+1,x+1,by omega,by go_num,by go_num,Hgn.out,by omega,by first | rfl | trivial⟩
            case measure=>simp [intOf];omega
        · have c0:wr.cell? ⟨gb,0,none⟩=some (.bool true):=(by rw [Hbk.out.cell 0];have:mkB C k 0=true:=(HS.out 0).2 Hok.out.zero;rw [<-this];exact mM C k hn0);have i1:(0:Int) < (n:Int):=oM;clear hg;go_wp2_with fail;go_ret;exact ⟨rfl,Hb.out⟩
end Go.Proofs.YthldmddkfbijhaaGreatDoor
