/- Lemmas of the walk. Conditions: each its own. -/
import Derived.Test.YtnmapianpjamnaaGreatDoorPc9
import Derived.Test.YtnmapianpjamnaaGreatDoorPc10
import Derived.Test.YtnmapianpjamnaaGreatDoorPc11
import Derived.Test.YtnmapianpjamnaaGreatDoorProg
set_option linter.all false
set_option maxRecDepth 100000
set_option maxHeartbeats 4000000
open Go.Proofs.Tryz
namespace Go.Proofs.YtnmapianpjamnaaGreatDoor
open Go.RowKit
def aEb (q:Nat->Prop) (B x c f G b i n:Nat) (u v:List Bool) (g e o:LT) (L:e=.nd f g (.lf i n u)) (er:o=.lf b G v) (w:List Value) (r:List Nat) (K O:Int) (t:World) (bA:TS t q B x w r K O) (W:Nd w c e.num o.num) (aZ:e.In t w) (bS:o.In t w) (U:(e.blks++o.blks).Nodup) (aS:∀z,z∈e.blks++o.blks->q z) (bM:∀a3,t.heap.size<=a3->q a3) (aW:(c::(e.nums++o.nums)++r).Nodup) (bQ:∀m,m∈c::(e.nums++o.nums)++r->m < x) (dd:r.length<=1000000) (d0:u.length<=128) (d1:v.length<=128) (bK:v.length < 32) (bU:e.Sm):
 Calls prog 286 #[B,(c:Int)] t (kI q B x c e o w r K O t):=by
 have bT:=aZ;obtain ⟨e5,el,em,ej,ek,W⟩:=W;obtain ⟨ei,b0⟩:=eqx e.num;obtain ⟨eo,b4⟩:=eqx o.num;rw [b0,b4] at W;have bB:=bA;obtain ⟨e1,dK,dR,ep,Z⟩:=bA;obtain ⟨e4,dV,rfl,bH⟩:=Z.rd.ex (by have:=W.lt Z.rd.len;omega);have cH:=Z.rd.c1;have da:=Z.rd.blk.lt;have d7:=bH.lt;have ed:(c:Int) < (x:Int):=by have:=W.lt Z.rd.len;omega
 obtain ⟨dI,be,_⟩:=Z.rd.at W;obtain ⟨bg,bh,ac,ad,bq,br⟩:=hqq6 bB W aZ bS b0 b4;clear Z bH bB W aZ bS b0 b4;go_enter func286,ntmps286;go_wp2_with fail;go_quiet (fail);have ag:Below t.heap.size t (t.drewN nq):=below_drewN (Below.refl t.heap.size t) nq;have bC:=bg.out.below ag;have c8:LK q [] t (t.drewN nq):=LK.below ag;have bX:=ac.out.below ag;have bY:=ad.out.below ag;clear cH dI be bg ac ad da d7;generalize t.drewN nq=w1 at*
 obtain ⟨ab,cB,ac,ad⟩:=hqq4 bC c8 bX bY;clear bC c8 bX bY ag;have ap:=fJ q B x e w r K O w1 ab.out ac.out;rw [bq.out] at ap;have aq:=fJ q B x o w r K O w1 ab.out ad.out;rw [br.out] at aq;have ah:(g.blks++ [n,G]).Nodup:=by rw [L,er] at U;have av:((g.blks++ [n])++ [G]).Nodup:=U;rwa [zCl] at av
 have bO:G≠n:=fun d=>by rw [List.nodup_append] at ah;have:=ah.2.1;rw [d] at this;simp at this
 have bF:∀z,z∈g.blks->z∉ [n,G]:=fun z a5 a=>by rw [List.nodup_append] at ah;exact ah.2.2 z a5 z a rfl
 have d2:q n:=aS n (by simp [L,LT.blks]);have d3:q G:=aS G (by simp [er,LT.blks]);have bP:Tr.mend e.er o.er=if u.length+v.length<=128 then .nd g.er (.lf (u++v)) else .nd (.nd g.er (.lf ((u++v).take ((u.length+v.length)/ 2)))) (.lf ((u++v).drop ((u.length+v.length)/ 2))):=by rw [L,er];show Tr.mend (.nd g.er (.lf u)) (.lf v)=_;simp only [Tr.mend];rw [zBx bK]
 have bJ:c≠f/\c≠i/\c≠b/\i≠b/\b≠f/\i≠f/\(∀m,m∈g.nums->m≠c/\m≠f/\m≠i/\m≠b)/\i∉r/\f∉r:=by
  rw [L,er] at aW;have d6:(c::((f::(g.nums++ [i]))++ [b])++r).Nodup:=aW;have df:(c::((f::(g.nums++ [i]))++ [b])++r).Perm (c::f::b::i::(g.nums++r)):=by rw [List.perm_iff_count];intro aa;simp only [List.count_cons,zCc,List.count_nil];omega
  have aX:=df.nodup_iff.1 d6;rw [List.nodup_cons,List.nodup_cons,List.nodup_cons,List.nodup_cons] at aX;simp only [List.mem_cons,zCm,not_or] at aX;obtain ⟨⟨ba,bb,bc,bd,ce⟩,⟨dE,dF,dG,dH⟩,⟨be,dJ,eu⟩,⟨du,a9⟩,_⟩:=aX;exact ⟨ba,bc,bb,fun d=>be d.symm,fun d=>dE d.symm,fun d=>dF d.symm,fun m s=>⟨fun d=>bd (d ▸ s),fun d=>dG (d ▸ s),fun d=>du (d ▸ s),fun d=>dJ (d ▸ s)⟩,a9,dH⟩
 obtain ⟨k,p,Hn,bi,bp,bo,cw⟩:=hqq7 (And.intro L er) bJ bQ bP bM U bU;have cm:=lhd (show g.In t w by have:=bT;rw [L] at this;exact this.2.1);have cj:=lhd bF;have cN:e.few=false:=by rw [L];rfl
 have cO:o.few=true:=by rw [er];exact zBz bK
 have c4:e.num=f:=by rw [L];rfl
 have c5:o.num=b:=by rw [er];rfl
 have c6:=bq.out;have c7:=br.out;rw [c4] at c6;rw [c5] at c7;subst c6 c7;rw [cN] at ap;rw [cO] at aq;clear L er aW bQ bP aS bM U c4 c5 bJ bU bF bT ah;have ck:=lhd (show (LT.nd f g (.lf i n u)).In w1 w by rw [<-k.out.1];exact ac.out);have cl:=lhd (show (LT.lf b G v).In w1 w by rw [<-k.out.2];exact ad.out);go_wp2_with fail;refine ap.mono ?_;rintro d wf ⟨rfl,rfl⟩;go_wp2_with fail;refine aq.mono ?_;rintro d dy ⟨rfl,rfl⟩;clear ap aq;have a9:=ab.out.setv (wrap64 (O+2));have ak:=ab.out.lkv 3 (.int .i64 (wrap64 (O+2)));obtain ⟨e2,dL,dS,eq,au⟩:=ab.out;have cL:=au.rd.c3;have cP:=au.rd.blk.frozen 3;have e8:=au.rd.blk.lt;obtain ⟨cc,b5⟩:=eqx (dy.setCell ⟨B,3,none⟩ (.int .i64 (wrap64 (O+2))));rw [b5] at a9 ak;have ai:=ck.out.but (ButL.refl [] _) ak (by simp) (by simp);have ay:=cl.out.but (ButL.refl [] _) ak (by simp) (by simp);have bm:=lhd a9;have aP:=fJ q B x _ w r K _ cc a9 ai;rw [show (LT.nd f g (.lf i n u)).few=false from rfl] at aP;obtain ⟨e3,dM,dT,es,R⟩:=a9;obtain ⟨cZ,dW,rfl,bI⟩:=R.rd.ex oM;have bs:=R.rd.c1;have ec:(f:Int) < (x:Int):=by have:=(ai.1).lt R.rd.len;omega
 have ef:(b:Int) < (x:Int):=by have:=(ay.1).lt R.rd.len;omega
 obtain ⟨_,bw,_,_,_,_,_,bv⟩:=R.rd.at (show At8 w f [_,_,_,_,_,_,_,_] from ai.1);have bx:cc.cell? ⟨cZ,f*8+1,none⟩=some (.int .i64 (i:Int)):=bw;obtain ⟨_,_,_,_,_,_,_,bz⟩:=R.rd.at (show At8 w b [_,_,_,_,_,_,_,_] from ay.1);have e9:=R.rd.blk.lt;have e6:=bI.lt;obtain ⟨a1,aJ,an,cq⟩:=hqq4 ai ay (cB.out.trans ak) b5;clear ak au b5 ai ay R bI bw;go_upto_region 12 with fail;rw [cq.out];clear cL cP;go_wp2_with fail;refine aP.mono ?_;rintro d cd ⟨rfl,rfl⟩;clear aP;go_wp2_with fail;by_cases aY:u.length+v.length<=128
 · refine (oH q B x i b n G u v w r K _ cd bm.out a1.out.2.2 aJ.out bO d2 d3 aY).mono ?_;rintro d P ⟨rfl,Y,aD,M,C,a0⟩;have a8:=C _ _ (fun a=>p.out.2.1 (List.mem_singleton.1 a)) bh.out;have c1:=C _ _ (fun a=>p.out.2.2.2.2.2.1 (List.mem_singleton.1 a).symm) a1.out.1;have al:=C _ _ (fun a=>p.out.2.2.2.1 (List.mem_singleton.1 a).symm) aJ.out.1;have a4:=a1.out.2.1.but C a0 (fun m s a=>(p.out.2.2.2.2.2.2.1 m s).2.2.1 (List.mem_singleton.1 a)) cj.out;obtain ⟨y,X⟩:=eqx (u++v);rw [X] at M;obtain ⟨az,b2⟩:=eqx y.length;obtain ⟨aA,b3⟩:=eqx (y.count true);have c2:At8 Y i (gM (az:Int) (aA:Int) n):=(by rw [<-b2,<-b3];exact M.1);obtain ⟨cY,dN,cM,dv,S⟩:=aD;obtain ⟨A,dX,rfl,aw⟩:=S.rd.ex oM;have cI:=S.rd.c1;have ea:=S.rd.blk.lt;have e7:=aw.lt;have aQ:=aw.frozen (c*8);obtain ⟨b9,_⟩:=S.rd.at a8;obtain ⟨cf,_⟩:=S.rd.at (show At8 Y f [_,_,_,_,_,_,_,_] from c1);obtain ⟨E,V⟩:=eqx g.num;have dD:P.cell? ⟨A,f*8,none⟩=some (.int .i64 (E:Int)):=(by rw [<-V];exact cf);have bD:=S.put (c*8) (.int .i64 (E:Int));have N:LK q [] P (P.setCell ⟨A,c*8,none⟩ (.int .i64 (E:Int))):=LK.set aw dC (OwnF.at S.own) _;have D:ButL [c] Y (Y.set (c*8) (.int .i64 (E:Int))):=(But8.set c Y (j:=0) oM _).l (by simp);have aj:=a8.set (j:=0) oM (.int .i64 (E:Int));have b7:=D _ _ (fun a=>p.out.2.1 (List.mem_singleton.1 a).symm) c2;have ca:=D _ _ (fun a=>p.out.2.2.1 (List.mem_singleton.1 a).symm) al;have bt:=a4.but D N (fun m s a=>(p.out.2.2.2.2.2.2.1 m s).1 (List.mem_singleton.1 a)) (by simp);have I:Below (P.setCell ⟨A,c*8,none⟩ (.int .i64 (E:Int))).heap.size (P.setCell ⟨A,c*8,none⟩ (.int .i64 (E:Int))) (P.setCell ⟨A,c*8,none⟩ (.int .i64 (E:Int))).drew:=bR.drew;have T:=bD.below I;have aB:=N.trans (LK.below (F:=q) (bl:= []) I);have aN:=bt.below I;have ao:=aB.blk n _ (by simp) M.2;obtain ⟨am,b6⟩:=eqx ((P.setCell ⟨A,c*8,none⟩ (.int .i64 (E:Int))).drew);rw [b6] at T aB aN ao;obtain ⟨dY,aV⟩:=cK T.rd.row;have cJ:=T.rd.c1;have db:=T.rd.blk.lt;have d8:=aV.lt;have ee:(i:Int) < (x:Int):=(by have:=b7.lt T.rd.len;omega);obtain ⟨dj,dk,dl,dm,dn,dp,dq,dr⟩:=T.rd.at b7;obtain ⟨bn,bf,aG,cn,bk⟩:=hqq5 T aN ao aj ca;have co:=lhd ((C.mono (l':=c::(e.nums++o.nums)) (by simp [k.out.1,LT.nums])).trans (D.mono (by simp)));have bj:=lhd ((an.out.mono (bl':=e.blks++o.blks) (by simp)).trans ((a0.mono (bl':=e.blks++o.blks) (fun z _ a5=>by
    rw [k.out.1,k.out.2];simp only [List.mem_cons,List.not_mem_nil,or_false] at a5;rcases a5 with rfl | rfl <;> simp [LT.blks])).trans (aB.mono (by simp))))
   obtain ⟨aH,aK,cr,aL,cu,cv⟩:=hqq6 aV V b6 X b2 b3;clear S bD T M a4 bt aN a8 aj al ca c1 c2 b7 C D a0 N aB I ao bs bv bx bz aw aV V b6 cf X b2 b3;go_wp2_with fail
   go_region
   rw [cr.out];clear cI aQ b9 dD;go_wp2_with fail
   go_still_tail 13,kR
   change wpList _ _ _ _ _ am.drew;have I:Below am.heap.size am am.drew:=bR.drew;have aU:=bn.out.below I;have J:=aH.out.below I aH.out.lt;have bu:=bf.out.below I;have aM:=aG.out.below I aG.out.lt;have c9:=bj.out.trans (LK.below (F:=q) (bl:=e.blks++o.blks) I);clear cJ dj dk dl dm dn dp dq dr db d8 I bn bf aG bj aH;generalize am.drew=w7 at*
   have d9:=J.lt;obtain ⟨b9,ba,bb,bc,bd,ce,dz,dA⟩:=aU.rd.at (show At8 _ b [_,_,_,_,_,_,_,_] from bk.out);have cQ:=J.frozen (b*8);have cR:=J.frozen (b*8+1);have cS:=J.frozen (b*8+2);have cT:=J.frozen (b*8+3);have aQ:=J.frozen (b*8+4);have cU:=J.frozen (b*8+5);have cV:=J.frozen (b*8+6);have cW:=J.frozen (b*8+7);obtain ⟨ae,bE,bG,a6⟩:=aU.put8 J bk.out (-1) (-1) 0 (az:Int) (aA:Int) 0 0 (some ⟨n,0,none⟩);obtain ⟨a2,aT⟩:=eqx (((((((((w7.setCell ⟨A,b*8,none⟩ (.int .i64 (-1))).setCell ⟨A,b*8+1,none⟩ (.int .i64 (-1))).setCell ⟨A,b*8+2,none⟩ (.int .i64 0)).setCell ⟨A,b*8+3,none⟩ (.int .i64 (az:Int))).setCell ⟨A,b*8+4,none⟩ (.int .i64 (aA:Int))).setCell ⟨A,b*8+5,none⟩ (.int .i64 0)).setCell ⟨A,b*8+6,none⟩ (.int .i64 0)).setCell ⟨A,b*8+7,none⟩ (.pointer (some n))));rw [aT] at ae a6;have aE:=bG.l (l:= [b]) (by simp);have H:Below a2.heap.size a2 (a2.alloc (.cells #[(i:Int),(f:Int)] 3)):=bR.alloc nL _;have af:=ae.below H;have bV:=Bk.new a2 3 #[(i:Int),(f:Int)];have dQ:=ae.rd.c0;have eb:=ae.rd.blk.lt;have b8:=c9.trans (a6.mono (bl':=e.blks++o.blks) (by simp));have eh:t.heap.size<=a2.heap.size:=b8.keep.size;have bN:=rR q B cY cM x i f a2.heap.size _ _ dv r K _ _ af (fun a3 U=>bp.out a3 (by rw [World.size_alloc] at U;omega)) (Hn.out i (by simp [k.out.1,LT.nums])) p.out.2.2.2.2.2.2.2.1 (Hn.out f (by simp [k.out.1,LT.nums])) p.out.2.2.2.2.2.2.2.2 p.out.2.2.2.2.2.1 bV dd;have ct:=lhd bN;have ci:=lhd ((bu.but aE a6 (fun m s a=>(p.out.2.2.2.2.2.2.1 m s).2.2.2 (List.mem_singleton.1 a)) (by simp)).below H);obtain ⟨cg,cA,cE⟩:=hqq3 ((a6.blk n _ (by simp) aM).below H (a6.blk n _ (by simp) aM).lt) (aE _ _ (fun a=>p.out.2.2.1 (List.mem_singleton.1 a)) cn.out) bE;have cG:=lhd (co.out.trans (aE.mono (l':=c::(e.nums++o.nums)) (by simp [k.out.2,LT.nums])));obtain ⟨cD,cp⟩:=hqq2 (b8.trans (LK.below H)) aT;clear aU J ae bE bG a6 af bV b8 c9 bu aM aE bN aT H;go_upto_region 9 with fail;rw [cp.out];clear b9 ba bb bc bd ce dz dA cQ cR cS cT aQ cU cV cW d9;go_wp2_with fail;refine ct.out.mono ?_;rintro d dx ⟨rfl,af,aC⟩
   have aI:=lhd (show kI q B x c e o w r K O t (.returned (.int .i64 (c:Int))) dx from
    ⟨_,r++ [i,f],_,⟨_,_,_,_,af⟩,.inr rfl,cG.out,cD.out.trans (aC.mono (by simp)),.inr ⟨g,.lf b n y,rfl,by rw [bi.out,zBx aY,aL.out];rfl,⟨_,_,_,_,_,by rw [aK.out];exact cA.out⟩,ci.out.but (ButL.refl [] _) aC (by simp) (by simp),⟨by
       have Q:(LT.lf b n y).cells=gM (az:Int) (aA:Int) n:=(by show gM ((y.length:Nat):Int) ((y.count true:Nat):Int) n=_;rw [cu.out,cv.out]);rw [Q];exact cE.out,aC.blk n _ (by simp) cg.out⟩,by
      rw [k.out.1,k.out.2,List.perm_iff_count];intro aa;simp only [LT.nums,List.count_cons,zCc,List.count_nil];omega,by
      have H:=bo.out;rw [k.out.1,k.out.2] at H;refine H.sublist ?_
      simp [LT.blks],fun aa a7=>.inl (by
       rw [k.out.1,k.out.2];simp only [LT.blks,zCm,List.mem_singleton] at a7⊢;rcases a7 with d | d <;> simp [d])⟩⟩)
   clear af aC;go_wp2_with fail;go_ret;exact aI.out
 · refine (rO q B x i b n G u v w r K _ cd bm.out a1.out.2.2 aJ.out bO p.out.2.2.2.1 (fun a3 U=>bp.out a3 (zAk an.out.keep.size U)) oM d0 d1).mono ?_;rintro d P ⟨rfl,Y,ar,aR,aD,M,bZ,cX,dZ,e0,C,a0⟩;have dc:c∉ [i,b]:=fun a=>by simp only [List.mem_cons,List.not_mem_nil,or_false] at a;rcases a with a | a;exact p.out.2.1 a;exact p.out.2.2.1 a
   have di:f∉ [i,b]:=fun a=>by simp only [List.mem_cons,List.not_mem_nil,or_false] at a;rcases a with a | a;exact p.out.2.2.2.2.2.1 a.symm;exact p.out.2.2.2.2.1 a.symm
   have a8:=C _ _ dc bh.out;have al:=C _ _ di a1.out.1;have a4:=a1.out.2.1.but C a0 (fun m s a=>by
    have:=p.out.2.2.2.2.2.2.1 m s;simp only [List.mem_cons,List.not_mem_nil,or_false] at a;rcases a with a | a;exact this.2.2.1 a
    · exact this.2.2.2 a) (by simp)
   obtain ⟨y,X⟩:=eqx ((u++v).take ((u.length+v.length)/ 2));rw [X] at M;have dh:y.length<=256:=(by rw [<-X,zAj,zAi];omega);have dg:y.count true<=y.length:=zBv;obtain ⟨E,V⟩:=eqx g.num;obtain ⟨dO,b1,dP,ao,en,aF⟩:=a4.cel;have sC:g.Sm:=(by have:=cw.out;rw [k.out.1] at this;exact this.l);obtain ⟨ds,dt⟩:=sC;have de:=g.on_le;rw [V] at aF;have bL:=fT q B x f E i g.ht 0 g.len y.length g.on (y.count true) Y r K _ P aD (by rw [<-V];exact al) aF (show At8 Y i (oB (-1) (-1) 0 y.length (y.count true) 0 0 (some ⟨ar,0,none⟩)) from M.1) oM oM oM oM oM oM;obtain ⟨cs,cz,cx,cy,ch,cF,cC,aL,aK⟩:=hqq9 bL a8 M bZ a4 C (an.out.trans a0) X V;have eg:=an.out.keep.size;clear bL a8 M bZ a4 C a0 aD al aF X V ds dt de dh dg bs bv bx bz;go_wp2_with fail;refine cs.out.mono ?_;rintro d dw ⟨rfl,dB,cb,aj,D,N,_⟩
   have aI:=lhd (show kI q B x c e o w r K O t (.returned (.int .i64 (c:Int))) dw from
    ⟨dB,r,_,cb,.inr rfl,(cF.out.mono (l':=c::(e.nums++o.nums)) (fun m s=>by
        rw [k.out.1,k.out.2];simp only [List.mem_cons,List.not_mem_nil,or_false] at s
        rcases s with rfl | rfl <;> simp [LT.nums])).trans ((D.l (l:=c::(e.nums++o.nums)) (by simp [k.out.1,LT.nums]))),(cC.out.trans N).mono (by simp),.inr ⟨.nd f g (.lf i ar y),.lf b aR _,rfl,by rw [bi.out,zBw aY,<-aL.out];rfl,⟨_,_,_,_,_,D _ _ p.out.1 cz.out⟩,⟨by
         have Q:=aj;rw [<-aK.out] at Q;exact Q,ch.out.but (D.l (l:= [f]) (by simp)) N (fun m s a=>(p.out.2.2.2.2.2.2.1 m s).2.1 (List.mem_singleton.1 a)) (by simp),cx.out.but (D.l (l:= [f]) (by simp)) N (fun m s a=>p.out.2.2.2.2.2.1 (by have Q:=List.mem_singleton.1 a;have aO:m=i:=List.mem_singleton.1 s;rw [<-Q,aO])) (by simp)⟩,cy.out.but (D.l (l:= [f]) (by simp)) N (fun m s a=>p.out.2.2.2.2.1 (by have Q:=List.mem_singleton.1 a;have aO:m=b:=List.mem_singleton.1 s;rw [<-Q,aO])) (by simp),by rw [k.out.1,k.out.2];exact .refl _,by
         have H:=bo.out;rw [k.out.1,k.out.2] at H;have av:((g.blks++ [n])++ [G]).Nodup:=H;rw [zCl,List.nodup_append] at av;have d4:∀z,z∈g.blks->z < t.heap.size:=fun z a5=>by obtain ⟨dU,d5⟩:=cm.out.blk z a5;exact d5.lt
         show ((g.blks++ [ar])++ [aR]).Nodup;rw [zCl,List.nodup_append];refine ⟨av.1,by simp [cX],fun aa a7 et ax d=>?_⟩;have:=d4 aa a7;simp only [List.singleton_append,List.mem_cons,List.not_mem_nil,or_false] at ax;rcases ax with ax | ax <;> omega,fun aa a7=>by
         rw [k.out.1,k.out.2];have bW:aa∈(g.blks++ [ar])++ [aR]:=a7;simp only [zCm,List.mem_singleton] at bW;rcases bW with (d | d)| d;exact .inl (by simp [LT.blks,d]);exact .inr oM
         · exact .inr oM⟩⟩)
   clear cb aj D N;go_wp2_with fail;go_ret;exact aI.out
def zH (i:Nat->Prop) (m o d:Nat) (e a:LT) (g:List Value) (c:List Nat) (p q:Int) (b:World) (t:TS b i m o g c p q) (v:Nd g d e.num a.num) (w:e.In b g) (x:a.In b g) (u:(e.blks++a.blks).Nodup) (E:∀M,M∈e.blks++a.blks->i M) (G:∀L,b.heap.size<=L->i L) (F:(d::(e.nums++a.nums)++c).Nodup) (H:∀O,O∈d::(e.nums++a.nums)++c->O < o) (I:c.length<=1000000) (J:e.er.Le) (K:a.er.Le) (T:e.Sm) (U:a.Sm)
 (R:e.few=true->a.ht<=1) (S:a.few=true->e.ht<=1):
 Calls prog 286 #[m,(d:Int)] b (kI i m o d e a g c p q b):=by
 cases e with
 | lf B N k=>
   cases a with
   | lf y D f=>
     by_cases n:k.length < 32∨f.length < 32;exact aEd i m o d B N y D k f _ _ rfl rfl g c p q b t v w x u E G F H I J K n;refine kX i m o d _ _ g c p q b t v w x u (zBy oM) (zBy oM) ?_;show Tr.mend (.lf k) (.lf f)=_;simp only [Tr.mend];rw [zBw n];rfl
   | nd y l j=>
     by_cases n:k.length < 32
     · have P:=R (zBz n);cases l with
       | lf C A f=>exact aEc i m o d B N y C A k f j _ _ rfl rfl g c p q b t v w x u E G F H I J K.1 n U
       | nd s r z=>
         have Q:(LT.nd y (.nd s r z) j).ht=max (max r.ht z.ht+1) j.ht+1:=rfl;omega
     · refine kX i m o d _ _ g c p q b t v w x u (zBy oM) rfl ?_;show Tr.mend (.lf k) (.nd l.er j.er)=_;cases l with
       | lf C A f=>
         show Tr.mend (.lf k) (.nd (.lf f) j.er)=_;simp only [Tr.mend];rw [zBw n];rfl
       | nd s r z=>rfl
 | nd B l j=>
   cases a with
   | lf y D f=>
     by_cases n:f.length < 32
     · have P:=S (zBz n);cases j with
       | lf C A k=>exact aEb i m o d B D y C A k f l _ _ rfl rfl g c p q b t v w x u E G F H I J.2 K n T
       | nd s r z=>
         have Q:(LT.nd B l (.nd s r z)).ht=max l.ht (max r.ht z.ht+1)+1:=rfl;omega
     · refine kX i m o d _ _ g c p q b t v w x u rfl (zBy oM) ?_;show Tr.mend (.nd l.er j.er) (.lf f)=_;cases j with
       | lf C A k=>
         show Tr.mend (.nd l.er (.lf k)) (.lf f)=_;simp only [Tr.mend];rw [zBw n];rfl
       | nd s r z=>rfl
   | nd y s r=>
     refine kX i m o d _ _ g c p q b t v w x u rfl rfl ?_;show Tr.mend (.nd l.er j.er) (.nd s.er r.er)=_;cases j <;> cases s <;> rfl
def jM (f:Nat->Prop) (n o:Nat) (b:LT) (r:List Value) (g:List Nat) (p:Int) (l:Bool) (k:Tr) (j:World) (m:Ending) (d:World):Prop:=
 ∃(a:LT) (e:List Value) (i:List Nat) (q:Int),m=.returned (.tuple #[.int .i64 ((a.num:Nat):Int),.bool l])/\TS d f n o e i p q/\a.er=k/\a.In d e/\(a.nums++i).Perm (b.nums++g)/\a.blks.Nodup/\(∀c,c∈a.blks->c∈b.blks∨j.heap.size<=c)/\ButL (b.nums++g) r e/\LK f b.blks j d
def LK.trans' {b:Nat->Prop} {c e:List Nat} {d w1 l:World} (g:LK b c d w1) (k:LK b e w1 l) (m:∀a,a < d.heap.size->a∈e->a∈c):LK b c d l:=
 ⟨g.keep.trans k.keep,fun a f j i=>k.blk a f (fun n=>j (m a i.lt n)) (g.blk a f j i)⟩
def aEe (a b:Tr):(Tr.mend a b).ht<=max a.ht b.ht+1:=by
 unfold Tr.mend;split
 · split
   · split <;> simp [Tr.ht]
   · simp [Tr.ht]
 · split
   · split <;> simp [Tr.ht] <;> omega
   · simp [Tr.ht]
 · split
   · split <;> simp [Tr.ht] <;> omega
   · simp [Tr.ht]
 · simp [Tr.ht]
def aBf {a b e f:LT} (g:Tr.mend a.er b.er=.nd e.er f.er) (i:max a.ht b.ht+1<=100000) (j:a.len+b.len<=100000):e.Sm/\f.Sm:=by
 have c:=aEe a.er b.er;have d:=congrArg List.length (Tr.mend_bits a.er b.er);rw [g] at c d;simp only [Tr.ht,Tr.bits,zAi] at c d;refine ⟨⟨?_,?_⟩,⟨?_,?_⟩⟩<;> simp only [LT.ht,LT.len] at*<;> omega
def tR (m:Nat->Prop) (f o c e b:Nat) (a:List Bool) (j:List Value) (i:List Nat) (B O:Int) (g:World) (F:TS g m f o j i B O) (a7:(LT.lf e b a).In g j) (a6:m b) (I:a.length<=128) (v:c < a.length):
 Calls prog 264 #[f,(e:Int),(c:Int)] g (jM m f o (.lf e b a) j i B (a.getD c false) (.lf (aC a c)) g):=by
 obtain ⟨n,G⟩:=a7;obtain ⟨y,J⟩:=eqx a.length;obtain ⟨z,K⟩:=eqx (a.count true);obtain ⟨ad,t⟩:=eqx (a.getD c false);have x:At8 j e (gM (y:Int) (z:Int) b):=by rw [<-J,<-K];exact n
 obtain ⟨r,p,q⟩:=iU (k:=c) (cs:=#[.int .i64 (-1),.int .i64 (-1),.int .i64 0,.int .i64 (y:Int),.int .i64 (z:Int),.int .i64 0,.int .i64 0,.pointer (some b)]) F;obtain ⟨ar,ac,ag,az,d⟩:=F;obtain ⟨a5,ah,rfl,u⟩:=d.rd.ex (by have:=n.lt d.rd.len;omega);have ae:=d.rd.c1;have af:=d.rd.c3;have aq:=d.rd.blk.frozen 3;have aw:=d.rd.blk.lt;have av:=u.lt;have ay:f≠a5:=Bk.ne d.rd.blk u dC;have ax:(e:Int) < (o:Int):=by have:=n.lt d.rd.len;omega
 obtain ⟨ai,aj,ak,al,am,an,ao,ap⟩:=d.rd.at x;obtain ⟨E,s⟩:=eqx ((g.setCell ⟨f,3,none⟩ (.int .i64 (wrap64 (O+1)))).alloc (.cells #[.int .i64 (-1),.int .i64 (-1),.int .i64 0,(y:Int),(z:Int),.int .i64 0,.int .i64 0,b] 220));rw [s] at r p q;have ab:E.cell? ⟨g.heap.size,7,none⟩=some (.pointer (some b)):=(q.cell 7).trans rfl;have au:=q.lt;obtain ⟨X,Q,a2,C,T,Y,a0,Z⟩:=hqq8 s r p (p.blk b _ (by simp) G) x t I v;have a1:=lhd (show (aC a c).length<=128 by have:=bF a v;omega);clear r p q s G n x J K I v d u;unfold jM;rw [t];clear t;go_enter func264,ntmps264;go_wp2_with fail;rw [X.out];refine (oZ b a c E C.out a0.out Z.out).mono ?_;rintro a4 a9 ⟨rfl,H,w⟩;rw [Y.out];obtain ⟨R,D⟩:=hqq2 (Q.out.blk C.out w) H;have a3:=lhd ((a2.out.mono (bl':= [b]) (by simp)).trans (LK.one w a6));clear H w ab;go_wp2_with fail;refine (gU m f o e b j i B _ (aC a c) a9 R.out T.out D.out a1.out).mono ?_;rintro a4 aa ⟨rfl,P,M,L,N,A,_⟩;obtain ⟨V,S⟩:=hqq2 M (show (LT.lf e b (aC a c)).In aa P from ⟨L,A.blk b _ (by simp) D.out⟩);have W:=lhd (N.l (l:= [e]++i) (by simp));have U:=lhd (a3.out.trans (A.mono (by simp)));clear M L N A;go_wp2_with fail;go_ret2;exact ⟨.lf e b (aC a c),P,i,_,rfl,V.out,rfl,S.out,.refl _,by simp [LT.blks],fun aA a8=>.inl a8,W.out,U.out⟩
def aBY (m:Nat->Prop) (q l F b:Nat) (d a:LT) (s:Tr) (H:Bool) (aY:List Nat) (x:List Value) (n:List Nat) (C bR:Int) (p:World) (b4:TS p m q l x n C bR) (cE:(LT.nd b d a).In p x) (bp:((LT.nd b d a).nums++(aY++n)).Perm (List.range l)) (an:(LT.nd b d a).blks.Nodup) (b5:∀f,f∈(LT.nd b d a).blks->m f) (bc:∀G,p.heap.size<=G->m G) (cF:F < d.len) (a3:(LT.nd b d a).Sm) (b7:s.ht<=d.ht/\s.bits.length<=d.len) (ds:l<=50000)
 (bN:s.Le) (bE:a.er.Le) (sh:∀g:LT,g.er=s->g.few=true->a.ht<=1) (bK:a.few=false)
 (bv:∀D cO,TS D m q l x n C cO->d.In D x->LK m [] p D->Calls prog 264 #[q,(d.num:Int),(F:Int)] D (jM m q l d x n C H s D)):
 Calls prog 264 #[q,(b:Int),(F:Int)] p (jM m q l (.nd b d a) x n C H (Tr.rebal (Tr.mend s a.er)) p):=by
 obtain ⟨a0,be,av⟩:=cE;obtain ⟨K,a1⟩:=eqx d.len;obtain ⟨aF,bj⟩:=eqx d.on;obtain ⟨aG,bm⟩:=eqx (d.len+a.len);obtain ⟨aI,bn⟩:=eqx (d.on+a.on);obtain ⟨ar,bd⟩:=eqx (max d.ht a.ht+1);obtain ⟨aE,a2⟩:=eqx d.num;obtain ⟨aJ,az⟩:=eqx a.num;have aw:At8 x b (ndL aE aJ ar aG aI K aF):=by rw [<-a1,<-bj,<-bm,<-bn,<-bd,<-a2,<-az];exact a0
 have br:d.Sm:=a3.l;have cJ:a.Sm:=a3.r;rw [a1] at cF;have dp:K<=100000:=by rw [<-a1];exact br.2
 obtain ⟨ai,N,bT⟩:=iU (k:=F) (cs:=#[.int .i64 (aE:Int),.int .i64 (aJ:Int),.int .i64 (ar:Int),.int .i64 (aG:Int),.int .i64 (aI:Int),.int .i64 (K:Int),.int .i64 (aF:Int),.pointer none]) b4;obtain ⟨dj,cV,d6,dA,u⟩:=b4;obtain ⟨cu,d7,rfl,aq⟩:=u.rd.ex (by have:=a0.lt u.rd.len;omega);have d4:=u.rd.c1;have d5:=u.rd.c3;have dg:=u.rd.blk.frozen 3;have dm:=u.rd.blk.lt;have dl:=aq.lt;have dt:q≠cu:=Bk.ne u.rd.blk aq dC;have dn:(b:Int) < (l:Int):=by have:=a0.lt u.rd.len;omega
 obtain ⟨d9,da,db,dc,dd,co,de,df⟩:=u.rd.at aw;obtain ⟨D,ak⟩:=eqx ((p.setCell ⟨q,3,none⟩ (.int .i64 (wrap64 (bR+1)))).alloc (.cells #[(aE:Int),(aJ:Int),(ar:Int),(aG:Int),(aI:Int),(K:Int),(aF:Int),.pointer none] 220));rw [ak] at ai N bT;have bi:=be.but (ButL.refl [] _) N (by simp) (by simp);have bq:=av.but (ButL.refl [] _) N (by simp) (by simp);have au:=bv D _ ai bi N;rw [a2] at au;have dh:decide ((F:Int) < (K:Int))=true:=zBz oM;have di:decide (F < K)=true:=zBz oM;obtain ⟨c4,aX,c2,aP,c1,aV,aT,Q,aU⟩:=hqq9 ak N bq au aw bp an b5 bc;obtain ⟨af,aR,d0,c8,c6,cg,cb,ce,cf⟩:=hqq9 a3 b7 a2 az (av.blk) bN bE sh bK;clear ai N bT ak bi bq au bv a0 aw a1 bj bm bn bd a2 az be av u aq bp an b5 a3 b7 br cJ bc bN bE sh bK;go_enter func264,ntmps264;go_wp2_with fail;rw [c4.out];refine aP.out.mono ?_;rintro t aL ⟨g,aM,E,cP,rfl,cL,z,bt,a7,bD,ah,a9,a8⟩;clear aP;obtain ⟨cK,a6,aH⟩:=eS aV.out;have bg:b∉d.nums++n:=fun c=>by rcases zCm.1 c with c | c;have:=aH;rw [LT.nums,List.nodup_cons] at this;exact this.1 (by simp [c]);exact (a6 b (by simp [LT.nums])).1 (by simp [c])
 have bo:∀e,e∈a.nums->e∉d.nums++n:=fun e i c=>by rcases zCm.1 c with c | c;have:=aH;rw [LT.nums,List.nodup_cons,List.nodup_append] at this;exact this.2.2.2 _ c _ i rfl;exact (a6 e (by simp [LT.nums,i])).1 (by simp [c])
 have ay:∀f,f∈a.blks->f∉d.blks:=fun f i c=>by have:=aT.out;rw [LT.blks,List.nodup_append] at this;exact this.2.2 _ c _ i rfl
 have a5:=a9 _ _ bg c1.out;have bw:=c2.out.but a9 a8 bo ay;obtain ⟨cr,cW,ck,cM,A⟩:=cL;obtain ⟨b2,d8,rfl,Y⟩:=A.rd.ex (by have:=a5.lt A.rd.len;omega);have ci:=A.rd.c1;have cC:=A.rd.blk.lt;have cA:=Y.lt;have cq:=Y.frozen (b*8);obtain ⟨cT,cU,_⟩:=A.rd.at a5;obtain ⟨W,aB⟩:=eqx g.num;have am:=A.put (b*8) (.int .i64 (W:Int));have O:LK m [] aL (aL.setCell ⟨b2,b*8,none⟩ (.int .i64 (W:Int))):=LK.set Y dC (OwnF.at A.own) _;obtain ⟨aZ,al⟩:=eqx (aL.setCell ⟨b2,b*8,none⟩ (.int .i64 (W:Int)));rw [al] at am O;have aa:ButL [b] aM (aM.set (b*8) (.int .i64 (W:Int))):=(But8.set b aM (j:=0) oM _).l (by simp);have bA:=a5.set (j:=0) oM (.int .i64 (W:Int));have U:((b::(g.nums++a.nums)++E)++aY).Perm (List.range l):=by refine List.Perm.trans ?_ aV.out;have P:=List.perm_iff_count.1 a7;rw [List.perm_iff_count];intro r;have:=P r;simp only [LT.nums,List.count_cons,zCc] at this⊢;omega
 have bl:=U.nodup_iff.2 List.nodup_range;have T:(b::(g.nums++a.nums)++E).Nodup:=(List.nodup_append.1 bl).1;have ax:∀e,e∈b::(g.nums++a.nums)++E->e < l:=fun e i=>zCi.1 (U.mem_iff.1 (List.mem_append_left _ i));have bb:E.length<=1000000:=by have:=U.length_eq;rw [zAi,zAi,zCh] at this;omega
 have bh:∀e,e∈g.nums->e∉ [b]:=fun e i c=>by have R:=T;rw [List.cons_append,List.nodup_cons] at R;have t:=List.mem_singleton.1 c;exact R.1 (by rw [<-t];simp [i])
 have bf:∀e,e∈a.nums->e∉ [b]:=fun e i c=>by have R:=T;rw [List.cons_append,List.nodup_cons] at R;have t:=List.mem_singleton.1 c;exact R.1 (by rw [<-t];simp [i])
 have bz:=bt.but aa O bh (by simp);have bx:=bw.but aa O bf (by simp);have aA:g.Sm:=by obtain ⟨bU,bV⟩:=aR.out;obtain ⟨bW,P⟩:=af.out.l;exact ⟨by show g.er.ht<=_;rw [z];exact zAk bU bW,by show g.er.bits.length<=_;rw [z];exact zAk bV P⟩
 have cI:=aX.out.keep.size;have cG:=a8.keep.size;have cH:=O.keep.size;have J:(g.blks++a.blks).Nodup:=by have J:=aT.out;rw [LT.blks,List.nodup_append] at J;rw [List.nodup_append];refine ⟨bD,J.2.1,fun r V dF bs t=>?_⟩;subst t;rcases ah r V with c | c;exact ay r bs c;obtain ⟨cm,cz⟩:=c6.out r bs;have cS:=cz.lt;omega
 have ap:∀f,f∈g.blks++a.blks->f∈(LT.nd b d a).blks∨p.heap.size<=f:=fun f v=>by rcases zCm.1 v with c | c;rcases ah f c with bB | bB;exact .inl (by simp [LT.blks,bB]);exact .inr oM;exact .inl (by simp [LT.blks,c])
 have b6:∀f,f∈g.blks++a.blks->m f:=fun f v=>by rcases ap f v with c | c;exact Q.out f c;exact aU.out f c
 have bk:=zH m q l b g a _ E C cP aZ ⟨cr,_,ck,cM,am⟩ (show Nd _ b g.num a.num from ⟨_,_,_,_,_,by rw [aB,c8.out];exact bA⟩) bz bx J b6 (fun G an=>aU.out G oM) T ax bb (z ▸ cg.out) cb.out aA af.out.r (fun Z=>ce.out g z Z) (fun Z=>by rw [cf.out] at Z;cases Z);have aQ:=lhd bk;have ch:=lhd ((a9.mono (l':=(LT.nd b d a).nums++n) (fun e i=>by rcases zCm.1 i with w | w <;> simp [LT.nums,w])).trans (aa.mono (by simp [LT.nums])));have cd:=lhd ((aX.out.mono (bl':=(LT.nd b d a).blks) (by simp)).trans ((a8.mono (bl':=(LT.nd b d a).blks) (fun f _ v=>by simp [LT.blks,v])).trans (O.mono (by simp))));obtain ⟨cc,aO,cY,ae,c7,d1,d2,cX⟩:=hqq8 a7 z J ap T ax U aA;have c3:=lhd (show ∀y B:LT,Tr.mend g.er a.er=.nd y.er B.er->y.Sm/\B.Sm from fun y B t=>by
  obtain ⟨bU,bV⟩:=aR.out;obtain ⟨bW,P⟩:=af.out;have cS:g.ht=s.ht:=congrArg Tr.ht z;have dB:g.len=s.bits.length:=congrArg (fun w=>w.bits.length) z;have dD:=LT.len_nd b d a;have dE:(LT.nd b d a).ht=max d.ht a.ht+1:=rfl;exact aBf t oM oM)
 obtain ⟨c5,c9⟩:=hqq2 al aB;have du:p.heap.size<=aZ.heap.size:=oM;have bI:∀e,e∈g.nums->e∈d.nums∨e∈n:=fun e i=>by have:=a7.mem_iff.1 (List.mem_append_left E i);exact zCm.1 this
 obtain ⟨d3,cZ⟩:=hqq2 bI (show ∀e,e∈(LT.nd b d a).nums->e∉n from fun e i c=>(a6 e i).1 (List.mem_append_right _ c));clear A Y am O aa bA a5 bh bf bz bx bw bt a9 a8 a7 bD ah z aA ay bg bo cK a6 aH al aB J ap b6 T ax bb U bl bk cI cG cH bI;go_wp2_with fail;rw [c9.out,c5.out];clear ci cC cA cq cT cU;refine aQ.out.mono ?_;rintro t ab ⟨ac,X,bS,aK,_,bP,bG,cy⟩;clear aQ;have ao:LK m (LT.nd b d a).blks p ab:=cd.out.trans' bG fun f v c=>by rcases ae.out f c with w | w;exact w;omega
 have dv:p.heap.size<=ab.heap.size:=ao.keep.size;have aj:(b::(g.nums++a.nums)++E).Perm ((LT.nd b d a).nums++n):=by have P:=List.perm_iff_count.1 cc.out;rw [List.perm_iff_count];intro r;have:=P r;simp only [LT.nums,List.count_cons,zCc] at this⊢;omega
 have b8:ButL ((LT.nd b d a).nums++n) x ac:=ch.out.trans (bP.mono fun e i=>aj.mem_iff.1 (List.mem_append_left _ i));obtain ⟨aN,ad,aS⟩:=hqq3 ao aj b8;clear ao aj b8 bP bG;rcases cy with ⟨c,f,G,rfl,I,a4,M,b3⟩|⟨y,B,rfl,I,L,aC,aD,M,bC,b0⟩
 · obtain ⟨ct,bX,cl,cN,o⟩:=aK;have dr:c < l:=(by have:=a4.1.lt o.rd.len;omega);obtain ⟨cv,cn,rfl,S⟩:=o.rd.ex oM;have cj:=o.rd.c1;have cD:=o.rd.blk.lt;have cB:=S.lt;have dq:(c:Int) < (l:Int):=oM;obtain ⟨_,_,_,_,_,_,_,cp⟩:=o.rd.at (show At8 ac c [_,_,_,_,_,_,_,_] from a4.1)
   have Q:=lhd (show jM m q l (.nd b d a) x n C H (Tr.rebal (Tr.mend s a.er)) p (.returned (.tuple #[.int .i64 ((c:Nat):Int),.bool H])) ab from
    ⟨.lf c f G,ac,X,bS,rfl,⟨_,_,_,_,o⟩,by rw [<-aO.out,I];rfl,a4,M.trans ad.out,by simp [LT.blks],fun r V=>ae.out r (by rw [List.mem_singleton.1 V];exact b3),aS.out,aN.out⟩)
   clear o a4 M b3 I S;go_wp2_with fail;go_ret2;exact Q.out
 · obtain ⟨bJ,bL⟩:y.Sm/\B.Sm:=c3.out y B I;have ba:(b::(y.nums++B.nums)).Nodup:=(List.nodup_append.1 (M.nodup_iff.2 c7.out)).1;have b9:=pO m q l b ac X C bS y B ab aK L aC aD ba bJ bL;obtain ⟨ct,bX,cl,cN,o⟩:=aK;obtain ⟨dk,dy,dz,dw,dx,L⟩:=L;obtain ⟨cv,cn,rfl,S⟩:=o.rd.ex (by have:=L.lt o.rd.len;omega);have cj:=o.rd.c1;have cD:=o.rd.blk.lt;have cB:=S.lt;obtain ⟨_,_,_,_,_,_,_,cp⟩:=o.rd.at L;obtain ⟨c0,aW,ca,bY,bZ⟩:=hqq5 b9 M bC b0 I;have cw:=fun f v=>aC.blk f v;have cx:=fun f v=>aD.blk f v;clear o S b9 M bC b0 I L aC aD ba bJ bL cw cx;go_wp2_with fail;refine c0.out.mono ?_;rintro t cQ ⟨bM,cR,co,rfl,bO,_,bu,b1,bF,ag,bQ,bH⟩
   have Q:=lhd (show jM m q l (.nd b d a) x n C H (Tr.rebal (Tr.mend s a.er)) p (.returned (.tuple #[.int .i64 ((bM.num:Nat):Int),.bool H])) cQ from
    ⟨bM,cR,X,_,rfl,bO,by rw [b1,<-aO.out,bZ.out];rfl,bu,(bF.append_right X).trans (aW.out.trans ad.out),ag.nodup_iff.2 ca.out,fun r V=>by
        rcases bY.out r (ag.mem_iff.1 V) with w | w;exact ae.out r w
        · exact .inr oM,aS.out.trans (bQ.mono fun e i=>ad.out.mem_iff.1 (aW.out.mem_iff.1 (List.mem_append_left _ i))),aN.out.trans (bH.mono (by simp))⟩)
   clear bO bu b1 bF ag bQ bH;go_wp2_with fail;go_ret2;exact Q.out
def aBX (m:Nat->Prop) (q l r b:Nat) (a d:LT) (t:Tr) (I:Bool) (aZ:List Nat) (z:List Value) (n:List Nat) (E bQ:Int) (p:World) (b5:TS p m q l z n E bQ) (cD:(LT.nd b a d).In p z) (bq:((LT.nd b a d).nums++(aZ++n)).Perm (List.range l)) (an:(LT.nd b a d).blks.Nodup) (b6:∀f,f∈(LT.nd b a d).blks->m f) (bd:∀H,p.heap.size<=H->m H) (cE:¬r < a.len) (dq:r<=100000) (a3:(LT.nd b a d).Sm) (b8:t.ht<=d.ht/\t.bits.length<=d.len) (dv:l<=50000)
 (bM:t.Le) (bD:a.er.Le) (sh:∀g:LT,g.er=t->g.few=true->a.ht<=1) (bJ:a.few=false)
 (aC:∀F cO,TS F m q l z n E cO->d.In F z->LK m [] p F->Calls prog 264 #[q,(d.num:Int),.int .i64 ((r - a.len:Nat):Int)] F (jM m q l d z n E I t F)):
 Calls prog 264 #[q,(b:Int),(r:Int)] p (jM m q l (.nd b a d) z n E I (Tr.rebal (Tr.mend a.er t)) p):=by
 obtain ⟨a0,av,bf⟩:=cD;obtain ⟨x,a1⟩:=eqx a.len;obtain ⟨aG,bk⟩:=eqx a.on;obtain ⟨aH,bn⟩:=eqx (a.len+d.len);obtain ⟨aJ,bo⟩:=eqx (a.on+d.on);obtain ⟨ar,be⟩:=eqx (max a.ht d.ht+1);obtain ⟨aF,ax⟩:=eqx a.num;obtain ⟨aK,a2⟩:=eqx d.num;have aw:At8 z b (ndL aF aK ar aH aJ x aG):=by rw [<-a1,<-bk,<-bn,<-bo,<-be,<-ax,<-a2];exact a0
 have bs:a.Sm:=a3.l;have cI:d.Sm:=a3.r;rw [a1] at cE aC;have ds:x<=100000:=by rw [<-a1];exact bs.2
 obtain ⟨ai,O,bS⟩:=iU (k:=r) (cs:=#[.int .i64 (aF:Int),.int .i64 (aK:Int),.int .i64 (ar:Int),.int .i64 (aH:Int),.int .i64 (aJ:Int),.int .i64 (x:Int),.int .i64 (aG:Int),.pointer none]) b5;obtain ⟨dl,cV,d6,dE,v⟩:=b5;obtain ⟨ct,d7,rfl,aq⟩:=v.rd.ex (by have:=a0.lt v.rd.len;omega);have d4:=v.rd.c1;have d5:=v.rd.c3;have dg:=v.rd.blk.frozen 3;have dp:=v.rd.blk.lt;have dn:=aq.lt;have dw:q≠ct:=Bk.ne v.rd.blk aq dC;have dr:(b:Int) < (l:Int):=by have:=a0.lt v.rd.len;omega
 obtain ⟨d9,da,db,dc,dd,cn,de,df⟩:=v.rd.at aw;obtain ⟨F,ak⟩:=eqx ((p.setCell ⟨q,3,none⟩ (.int .i64 (wrap64 (bQ+1)))).alloc (.cells #[(aF:Int),(aK:Int),(ar:Int),(aH:Int),(aJ:Int),(x:Int),(aG:Int),.pointer none] 220));rw [ak] at ai O bS;have bj:=av.but (ButL.refl [] _) O (by simp) (by simp);have br:=bf.but (ButL.refl [] _) O (by simp) (by simp);have au:=aC F _ ai br O;rw [a2] at au;have dh:decide ((r:Int) < (x:Int))=false:=zBy oM;have di:decide (r < x)=false:=zBy oM;have dj:wrap64 ((r:Int) -(x:Int))=((r - x:Nat):Int):=by unfold wrap64;omega
 have dk:((r:Int) -(x:Int))=((r - x:Nat):Int):=oM;obtain ⟨c3,aY,c1,aQ,c0,aW,aU,R,aV⟩:=hqq9 ak O bj au aw bq an b6 bd;obtain ⟨af,aS,c7,d2,c5,cf,ca,cd,ce⟩:=hqq9 a3 b8 ax a2 (av.blk) bM bD sh bJ;clear ai O bS ak bj br au aC a0 aw a1 bk bn bo be ax a2 av bf v aq bq an b6 a3 b8 bs cI bd bM bD sh bJ;go_enter func264,ntmps264;go_wp2_with fail;rw [c3.out];refine aQ.out.mono ?_;rintro u aM ⟨g,aN,G,cP,rfl,cL,B,bt,a7,bC,ah,a9,a8⟩;clear aQ;obtain ⟨cK,a6,aI⟩:=eS aW.out;have bh:b∉d.nums++n:=fun c=>by rcases zCm.1 c with c | c;have:=aI;rw [LT.nums,List.nodup_cons] at this;exact this.1 (by simp [c]);exact (a6 b (by simp [LT.nums])).1 (by simp [c])
 have bp:∀e,e∈a.nums->e∉d.nums++n:=fun e i c=>by rcases zCm.1 c with c | c;have:=aI;rw [LT.nums,List.nodup_cons,List.nodup_append] at this;exact this.2.2.2 _ i _ c rfl;exact (a6 e (by simp [LT.nums,i])).1 (by simp [c])
 have az:∀f,f∈a.blks->f∉d.blks:=fun f i c=>by have:=aU.out;rw [LT.blks,List.nodup_append] at this;exact this.2.2 _ i _ c rfl
 have a5:=a9 _ _ bh c0.out;have bv:=c1.out.but a9 a8 bp az;obtain ⟨cq,cW,cj,cM,C⟩:=cL;obtain ⟨b3,d8,rfl,Y⟩:=C.rd.ex (by have:=a5.lt C.rd.len;omega);have ch:=C.rd.c1;have cB:=C.rd.blk.lt;have cz:=Y.lt;have cp:=Y.frozen (b*8+1);obtain ⟨cT,cU,_⟩:=C.rd.at a5;obtain ⟨W,aB⟩:=eqx g.num;have am:=C.put (b*8+1) (.int .i64 (W:Int));have P:LK m [] aM (aM.setCell ⟨b3,b*8+1,none⟩ (.int .i64 (W:Int))):=LK.set Y dC (OwnF.at C.own) _;obtain ⟨b0,al⟩:=eqx (aM.setCell ⟨b3,b*8+1,none⟩ (.int .i64 (W:Int)));rw [al] at am P;have aa:ButL [b] aN (aN.set (b*8+1) (.int .i64 (W:Int))):=(But8.set b aN (j:=1) oM _).l (by simp);have bz:=a5.set (j:=1) oM (.int .i64 (W:Int));have V:((b::(a.nums++g.nums)++G)++aZ).Perm (List.range l):=by refine List.Perm.trans ?_ aW.out;have Q:=List.perm_iff_count.1 a7;rw [List.perm_iff_count];intro s;have:=Q s;simp only [LT.nums,List.count_cons,zCc] at this⊢;omega
 have bm:=V.nodup_iff.2 List.nodup_range;have U:(b::(a.nums++g.nums)++G).Nodup:=(List.nodup_append.1 bm).1;have ay:∀e,e∈b::(a.nums++g.nums)++G->e < l:=fun e i=>zCi.1 (V.mem_iff.1 (List.mem_append_left _ i));have bc:G.length<=1000000:=by have:=V.length_eq;rw [zAi,zAi,zCh] at this;omega
 have bi:∀e,e∈g.nums->e∉ [b]:=fun e i c=>by have S:=U;rw [List.cons_append,List.nodup_cons] at S;have u:=List.mem_singleton.1 c;exact S.1 (by rw [<-u];simp [i])
 have bg:∀e,e∈a.nums->e∉ [b]:=fun e i c=>by have S:=U;rw [List.cons_append,List.nodup_cons] at S;have u:=List.mem_singleton.1 c;exact S.1 (by rw [<-u];simp [i])
 have bx:=bt.but aa P bi (by simp);have bw:=bv.but aa P bg (by simp);have aA:g.Sm:=by obtain ⟨bT,bU⟩:=aS.out;obtain ⟨bV,Q⟩:=af.out.r;exact ⟨by show g.er.ht<=_;rw [B];exact zAk bT bV,by show g.er.bits.length<=_;rw [B];exact zAk bU Q⟩
 have cH:=aY.out.keep.size;have cF:=a8.keep.size;have cG:=P.keep.size;have K:(a.blks++g.blks).Nodup:=by have K:=aU.out;rw [LT.blks,List.nodup_append] at K;rw [List.nodup_append];refine ⟨K.1,bC,fun s L dI cJ u=>?_⟩;subst u;rcases ah s cJ with c | c;exact az s L c;obtain ⟨cl,cy⟩:=c5.out s L;have cS:=cy.lt;omega
 have ap:∀f,f∈a.blks++g.blks->f∈(LT.nd b a d).blks∨p.heap.size<=f:=fun f w=>by rcases zCm.1 w with c | c;exact .inl (by simp [LT.blks,c]);rcases ah f c with bA | bA;exact .inl (by simp [LT.blks,bA]);exact .inr oM
 have b7:∀f,f∈a.blks++g.blks->m f:=fun f w=>by rcases ap f w with c | c;exact R.out f c;exact aV.out f c
 have bl:=zH m q l b a g _ G E cP b0 ⟨cq,_,cj,cM,am⟩ (show Nd _ b a.num g.num from ⟨_,_,_,_,_,by rw [aB,c7.out];exact bz⟩) bw bx K b7 (fun H an=>aV.out H oM) U ay bc ca.out (B ▸ cf.out) af.out.l aA (fun Z=>by rw [ce.out] at Z;cases Z) (fun Z=>cd.out g B Z);have aR:=lhd bl;have cg:=lhd ((a9.mono (l':=(LT.nd b a d).nums++n) (fun e i=>by rcases zCm.1 i with y | y <;> simp [LT.nums,y])).trans (aa.mono (by simp [LT.nums])));have cc:=lhd ((aY.out.mono (bl':=(LT.nd b a d).blks) (by simp)).trans ((a8.mono (bl':=(LT.nd b a d).blks) (fun f _ w=>by simp [LT.blks,w])).trans (P.mono (by simp))));obtain ⟨cb,aP,cY,ae,c6,d0,d1,cX⟩:=hqq8 a7 B K ap U ay V aA;have c2:=lhd (show ∀A D:LT,Tr.mend a.er g.er=.nd A.er D.er->A.Sm/\D.Sm from fun A D u=>by
  obtain ⟨bT,bU⟩:=aS.out;obtain ⟨bV,Q⟩:=af.out;have cS:g.ht=t.ht:=congrArg Tr.ht B;have dF:g.len=t.bits.length:=congrArg (fun y=>y.bits.length) B;have dG:=LT.len_nd b a d;have dH:(LT.nd b a d).ht=max a.ht d.ht+1:=rfl;exact aBf u oM oM)
 obtain ⟨c4,c8⟩:=hqq2 al aB;have dx:p.heap.size<=b0.heap.size:=oM;have bH:∀e,e∈g.nums->e∈d.nums∨e∈n:=fun e i=>by have:=a7.mem_iff.1 (List.mem_append_left G i);exact zCm.1 this
 obtain ⟨d3,cZ⟩:=hqq2 bH (show ∀e,e∈(LT.nd b a d).nums->e∉n from fun e i c=>(a6 e i).1 (List.mem_append_right _ c));clear C Y am P aa bz a5 bi bg bx bw bv bt a9 a8 a7 bC ah B aA az bh bp cK a6 aI al aB K ap b7 U ay bc V bm bl cH cF cG bH;go_wp2_with fail;rw [c8.out,c4.out];clear ch cB cz cp cT cU;refine aR.out.mono ?_;rintro u ab ⟨ac,X,bR,aL,_,bO,bF,cx⟩;clear aR;have ao:LK m (LT.nd b a d).blks p ab:=cc.out.trans' bF fun f w c=>by rcases ae.out f c with y | y;exact y;omega
 have dy:p.heap.size<=ab.heap.size:=ao.keep.size;have aj:(b::(a.nums++g.nums)++G).Perm ((LT.nd b a d).nums++n):=by have Q:=List.perm_iff_count.1 cb.out;rw [List.perm_iff_count];intro s;have:=Q s;simp only [LT.nums,List.count_cons,zCc] at this⊢;omega
 have b9:ButL ((LT.nd b a d).nums++n) z ac:=cg.out.trans (bO.mono fun e i=>aj.mem_iff.1 (List.mem_append_left _ i));obtain ⟨aO,ad,aT⟩:=hqq3 ao aj b9;clear ao aj b9 bO bF;rcases cx with ⟨c,f,H,rfl,J,a4,N,b4⟩|⟨A,D,rfl,J,M,aD,aE,N,bB,b1⟩
 · obtain ⟨cr,bW,ck,cN,o⟩:=aL;have du:c < l:=(by have:=a4.1.lt o.rd.len;omega);obtain ⟨cu,cm,rfl,T⟩:=o.rd.ex oM;have ci:=o.rd.c1;have cC:=o.rd.blk.lt;have cA:=T.lt;have dt:(c:Int) < (l:Int):=oM;obtain ⟨_,_,_,_,_,_,_,co⟩:=o.rd.at (show At8 ac c [_,_,_,_,_,_,_,_] from a4.1)
   have R:=lhd (show jM m q l (.nd b a d) z n E I (Tr.rebal (Tr.mend a.er t)) p (.returned (.tuple #[.int .i64 ((c:Nat):Int),.bool I])) ab from
    ⟨.lf c f H,ac,X,bR,rfl,⟨_,_,_,_,o⟩,by rw [<-aP.out,J];rfl,a4,N.trans ad.out,by simp [LT.blks],fun s L=>ae.out s (by rw [List.mem_singleton.1 L];exact b4),aT.out,aO.out⟩)
   clear o a4 N b4 J T;go_wp2_with fail;go_ret2;exact R.out
 · obtain ⟨bI,bK⟩:A.Sm/\D.Sm:=c2.out A D J;have bb:(b::(A.nums++D.nums)).Nodup:=(List.nodup_append.1 (N.nodup_iff.2 c6.out)).1;have ba:=pO m q l b ac X E bR A D ab aL M aD aE bb bI bK;obtain ⟨cr,bW,ck,cN,o⟩:=aL;obtain ⟨dm,dB,dD,dz,dA,M⟩:=M;obtain ⟨cu,cm,rfl,T⟩:=o.rd.ex (by have:=M.lt o.rd.len;omega);have ci:=o.rd.c1;have cC:=o.rd.blk.lt;have cA:=T.lt;obtain ⟨_,_,_,_,_,_,_,co⟩:=o.rd.at M;obtain ⟨bZ,aX,c9,bX,bY⟩:=hqq5 ba N bB b1 J;have cv:=fun f w=>aD.blk f w;have cw:=fun f w=>aE.blk f w;clear o T ba N bB b1 J M aD aE bb bI bK cv cw;go_wp2_with fail;refine bZ.out.mono ?_;rintro u cQ ⟨bL,cR,cn,rfl,bN,_,bu,b2,bE,ag,bP,bG⟩
   have R:=lhd (show jM m q l (.nd b a d) z n E I (Tr.rebal (Tr.mend a.er t)) p (.returned (.tuple #[.int .i64 ((bL.num:Nat):Int),.bool I])) cQ from
    ⟨bL,cR,X,_,rfl,bN,by rw [b2,<-aP.out,bY.out];rfl,bu,(bE.append_right X).trans (aX.out.trans ad.out),ag.nodup_iff.2 c9.out,fun s L=>by
        rcases bX.out s (ag.mem_iff.1 L) with y | y;exact ae.out s y
        · exact .inr oM,aT.out.trans (bP.mono fun e i=>ad.out.mem_iff.1 (aX.out.mem_iff.1 (List.mem_append_left _ i))),aO.out.trans (bG.mono (by simp))⟩)
   clear bN bu b2 bE ag bP bG;go_wp2_with fail;go_ret2;exact R.out
def rU (f:Nat->Prop) (o l:Nat) (q:List Value) (n:List Nat) (t:Int) (F:l<=50000):∀(e:LT) (c:Nat) (r:List Nat) (v:Int) (g:World),TS g f o l q n t v->e.In g q->(e.nums++(r++n)).Perm (List.range l)->e.blks.Nodup->(∀i,i∈e.blks->f i)->(∀m,g.heap.size<=m->f m)->c < e.len->e.er.Avl->e.er.Full->(e.ht<=50000/\e.len<=50000)->
 Calls prog 264 #[o,(e.num:Int),(c:Int)] g (jM f o l e q n t (e.bits.getD c false) (e.er.drp c) g)
 | .lf d i a9,c,r,v,g,B,E,w,C,u,D,a5,a2,N,Q=>tR f o l c d i a9 q n t v g B E (u i (by simp [LT.blks])) N.2 a5
 | .nd d a b,c,r,v,g,B,E,w,C,u,D,a5,a2,N,Q=>by
   have ai:=LT.len_nd d a b;have ah:(LT.nd d a b).ht=max a.ht b.ht+1:=rfl;have M:=C;rw [LT.blks,List.nodup_append] at M;obtain ⟨Y,Z,a7,a8⟩:=a2;obtain ⟨z,A⟩:=N;have af:a.ht<=b.ht+1:=a7;have ag:b.ht<=a.ht+1:=a8;have a4:∀j,LK f [] g j->∀m,j.heap.size<=m->f m:=fun j U m ab=>D m (zAk U.keep.size ab);have K:∀ {p:LT},p.er.Full->p.few=false:=fun {p} s=>by
    cases p with
    | lf U i m=>exact zBy (by have:=s.1;omega)
    | nd U aj a6=>rfl
   have a0:∀ {p:LT},p.few=true->¬p.er.Full:=fun {p} a1 s=>by rw [K s] at a1;cases a1
   have a3:(LT.nd d a b).bits=a.bits++b.bits:=rfl;by_cases k:c < a.len
   · obtain ⟨x,R,S,T,ad⟩:=Tr.drp_spec a.er c k Y z;have G:(LT.nd d a b).er.drp c=Tr.rebal (Tr.mend (a.er.drp c) b.er):=(by show (Tr.nd a.er b.er).drp c=_;rw [Tr.drp,zBx k]);have I:(LT.nd d a b).bits.getD c false=a.bits.getD c false:=(by rw [a3,zAb,zAb,zAn k]);have P:=congrArg List.length (Tr.drp_bits a.er c k);have ac:=bF a.er.bits k;rw [G,I]
     refine aBY f o l c d a b _ _ r q n t v g B E w C u D k (LT.Sm.of Q) ⟨T,by rw [P];have H:a.er.bits.length=a.len:=rfl;omega⟩ F R.le A.le (fun ae J s=>by
       have L:=S (by rw [<-J];exact a0 s);have aa:a.ht=0:=L;omega) (K A) fun j X W x V=>?_
     refine rU f o l q n t F a c (d::(b.nums++r)) X j W x ?_ M.1 (fun i O=>u i (by simp [LT.blks,O])) (a4 j V) k Y z ⟨by omega,by omega⟩;refine List.Perm.trans ?_ w;rw [List.perm_iff_count];intro a6;simp only [LT.nums,List.count_cons,zCc];omega
   · have y:c - a.len < b.er.bits.length:=(by have H:b.er.bits.length=b.len:=rfl;omega);obtain ⟨x,R,S,T,ad⟩:=Tr.drp_spec b.er (c - a.len) y Z A;have G:(LT.nd d a b).er.drp c=Tr.rebal (Tr.mend a.er (b.er.drp (c - a.len))):=(by show (Tr.nd a.er b.er).drp c=_;rw [Tr.drp,zBw k]);have I:(LT.nd d a b).bits.getD c false=b.bits.getD (c - a.len) false:=(by rw [a3,zAb,zAb,zAo (by have H:a.bits.length=a.len:=rfl;omega)]);have P:=congrArg List.length (Tr.drp_bits b.er (c - a.len) y);have ac:=bF b.er.bits y;rw [G,I]
     refine aBX f o l c d a b _ _ r q n t v g B E w C u D k oM (LT.Sm.of Q) ⟨T,by rw [P];have H:b.er.bits.length=b.len:=rfl;omega⟩ F R.le z.le (fun ae J s=>by
       have L:=S (by rw [<-J];exact a0 s);have aa:b.ht=0:=L;omega) (K z) fun j X W x V=>?_
     refine rU f o l q n t F b (c - a.len) (d::(a.nums++r)) X j W x ?_ M.2.1 (fun i O=>u i (by simp [LT.blks,O])) (a4 j V) y Z A ⟨by omega,by omega⟩;refine List.Perm.trans ?_ w;rw [List.perm_iff_count];intro a6;simp only [LT.nums,List.count_cons,zCc];omega
def mU {c:Nat->Prop} {b d:World} (a:Keep (Gw c b.heap.size) b d):Keep c b d:=
 ⟨a.os,a.tape,a.output,a.size,fun i g f=>a.block i g fun e=>e.elim f fun j=>by omega⟩
def aDl {a:Tr} (b:a.Full):32*a.lv<=a.bits.length:=by have:=Tr.full_lv b;omega
def mN:∀c:LT,c.nums.length+1=2*c.er.lv
 | .lf _ _ _=>rfl
 | .nd _ a b=>by have d:=mN a;have e:=mN b;show (_::(a.nums++b.nums)).length+1=2*(a.er.lv+b.er.lv);simp only [zCf,zAi];omega
def aD5 {a:LT} (d:a.er.Ok) (e:a.len<=1100):a.nums.length<=80:=by
 have b:=mN a;have f:a.er.bits.length<=1100:=e;cases c:a.er with
 | lf g=>
   rw [c] at b;simp only [Tr.lv] at b;omega
 | nd i j=>
   rw [c] at d b f;have:=Tr.full_lv d.2;omega
def aEG {d:Nat} (a:d<=100000):wrap64 (0+(d:Int))=(d:Int):=by unfold wrap64;omega
def aEZ (c:Option Tr) (b:Nat) (a:Bool):Option Tr:=
 match c with
 | none=>some (.lf [a])
 | some d=>some (d.ins b a)
def aFq (b:Nat->Prop) (d i:Nat) (j:Bool) (e:Option Tr) (f:World) (g:Ending) (a:World):Prop:=g=.returned (.int .i64 0)/\TreeEo a (Gw b f.heap.size) d (aEZ e i j)/\Keep b f a/\∃c:Nat,c<=5*oht e+2/\a.cell? ⟨d,3,none⟩=some (.int .i64 (c:Int))
def oV (i:Nat->Prop) (a m:Nat) (y:Bool) (j:Tr) (f:World) (U:TreeEo f i a (some j)) (a3:j.bits.length < 1100) (a2:m<=j.bits.length):
 Calls prog 117 #[a,(m:Int),.bool y] f (aFq i a m y (some j) f):=by
 have b4:¬(m:Int) < 0:=oM;obtain ⟨P,a0⟩:=eqx j.bits.length;have b5:¬(P < m):=oM;obtain ⟨M,ah,z,ag⟩:=hqq4 U a0 a2 a3;clear U a0 a2 a3;go_enter func117,ntmps117;go_wp2_with fail;refine (fE a (some j) _ M.out.at).mono ?_;rintro r w1 ⟨rfl,u⟩;rw [show (bK (some j)).length=P from ah.out];have aF:=M.out.below u;obtain ⟨aZ,aQ,aU,a5,L,bb,R,ba,bc,c,T,⟨n,_,_⟩|⟨e,n,D,rfl,V,W,X,Y,Z⟩⟩:=aF
 · cases n
 injection n with n;obtain ⟨b0,aV,rfl,aG⟩:=c.rd.ex (by have:=D.at.lt c.rd.len;omega);have aR:=c.rd.c2;have aT:=c.rd.c3;have aW:=c.rd.blk.frozen 2;have aY:=c.rd.blk.frozen 3;have b1:=c.rd.blk.lt;have b7:(((e.num:Nat):Int)==-1)=false:=zCb.2 oM;have b8:¬((e.num:Nat):Int)=-1:=oM;have b9:=u.size;have a1:=(c.setv 0).mono (G:=Gw i f.heap.size) fun aA _ aD=>.inl aD;have A:TS (w1.setCell ⟨a,3,none⟩ (.int .i64 0)) (Gw i f.heap.size) a a5 L R (e.num:Int) 0:=⟨_,_,_,_,a1⟩;have E:e.In (w1.setCell ⟨a,3,none⟩ (.int .i64 0)) L:=D.keep (fun _ _ _ k=>k) fun g _ aC l=>l.far (p:=⟨a,3,none⟩) (Bk.ne l c.rd.blk dC) _;have v:Keep (Gw i f.heap.size) f (w1.setCell ⟨a,3,none⟩ (.int .i64 0)):=(Keep.of_below u).setCell (p:=⟨a,3,none⟩) (.inl (.inl c.fg)) _;have J:f.heap.size<=(w1.setCell ⟨a,3,none⟩ (.int .i64 0)).heap.size:=v.size;obtain ⟨ap,B⟩:=eqx (w1.setCell ⟨a,3,none⟩ (.int .i64 0));rw [B] at A E v J;have aI:i a:=c.fg;obtain ⟨aj,ai,ak,al,s,ae,af,N,ad⟩:=hqq9 B A E v V X Y Z W;obtain ⟨q,O⟩:=hqq2 n T;clear B A E v V X Y Z W n T a1 D aG u c;go_wp2_with fail;rw [aj.out];have b3:e.ht<=e.len:=s.out.ht_len;have b6:=ad.out;refine (wV (Gw i f.heap.size) a a5 y L R (e.num:Int) (by have:=O.out;omega) e m [] 0 ap ai.out ak.out (by simpa using ae.out) af.out (fun g C=>.inl (N.out g C)) (fun aA l=>.inr (zAk J l)) (by have:=z.out;rw [q.out] at this;exact this) s.out.le s.out.avl ⟨by omega,by omega⟩).mono ?_;rintro r aO ⟨b,w,aP,S,t,rfl,⟨aE,ac,aB,aN,o⟩,a7,x,a8,K,a9,aM,aa,ab,aL,a6⟩;have b2:=o.rd.blk.lt;have aX:=o.rd.blk.frozen 2;have aS:=o.rd.c2;have Q:=lhd (o.setrt (b.num:Int));have an:=lhd (a8.keep (w':=aO.setCell ⟨a,2,none⟩ (.int .i64 (b.num:Int))) (fun _ _ _ k=>k) fun g _ aC l=>l.far (p:=⟨a,2,none⟩) (Bk.ne l o.rd.blk dC) _);have ao:=lhd (mU ((al.out.trans a6.keep).setCell (p:=⟨a,2,none⟩) (.inl (.inl aI)) (.int .i64 (b.num:Int))));have I:b.er.Ok:=by rw [x];exact Tr.ins_ok _ _ _ (by have:=z.out;rw [q.out] at this;exact this) s.out
 have H:b.len<=1100:=by show b.er.bits.length<=1100;have aJ:=ag.out;have F:=z.out;rw [q.out] at aJ F;rw [x,Tr.ins_bits _ _ _ F,bB _ _ F];omega
 have a4:w<=200:=by rcases a9 with r | r;rw [r];exact O.out;subst r;have aK:=K.length_eq;simp only [List.nil_append,List.append_nil,zCh] at aK;have:=aD5 I H;omega
 have am:=lhd (⟨I,H,a4,by simpa using K,aa,fun g C=>(ab g C).elim (fun k=>.inl (N.out g k)) fun k=>.inr (zAk J k),a7,x⟩:b.er.Ok/\b.len<=1100/\w<=200/\(b.nums++S).Perm (List.range w)/\b.blks.Nodup/\(∀g,g∈b.blks->Gw i f.heap.size g)/\t<=5*e.ht+2/\b.er=e.er.ins m y);clear o a7 x a8 K a9 aM aa ab aL a6 I H a4;go_wp2_with fail;go_ret;obtain ⟨aq,ar,au,av,aw,ax,ay,az⟩:=am.out;have aH:=aEG (d:=t) oM;refine ⟨rfl,⟨aE,ac,aB,w,aP,aN,S,_,_,Q.out,au,.inr ⟨b,by rw [q.out,az];rfl,an.out,rfl,aq,ar,av,aw,ax⟩⟩,ao.out,t,by rw [q.out];exact ay,?_⟩;rw [Q.out.rd.c3,aH]
def oW (d:Nat->Prop) (a:Nat) (c:Bool) (b:World) (P:TreeEo b d a none):
 Calls prog 117 #[a,.int .i64 0,.bool c] b (aFq d a 0 c none b):=by
 have E:=lhd P;clear P;go_enter func117,ntmps117;go_wp2_with fail;refine (fE a none _ E.out.at).mono ?_;rintro q w1 ⟨rfl,m⟩;have ad:=E.out.below m;obtain ⟨av,an,ap,k,a2,aC,l,ak,aD,e,O,S⟩:=ad;obtain ⟨rfl,R⟩:ak=-1/\l.Perm (List.range k):=by
  rcases S with ⟨_,a8,o⟩|⟨aB,r,_⟩;exact ⟨a8,o⟩
  · cases r
 clear S;have a9:=e.rd.c2;have L:=e.rd.c3;have M:=e.rd.blk.frozen 3;have ax:=e.rd.blk.lt;have t:=(e.setv 0).mono (G:=Gw d b.heap.size) fun o _ ab=>.inl ab;have x:Keep (Gw d b.heap.size) b (w1.setCell ⟨a,3,none⟩ (.int .i64 0)):=(Keep.of_below m).setCell (p:=⟨a,3,none⟩) (.inl (.inl e.fg)) _;have az:=m.size;have y:w1.heap.size=(w1.setCell ⟨a,3,none⟩ (.int .i64 0)).heap.size:=by simp [World.setCell]
 obtain ⟨f,s⟩:=eqx (w1.setCell ⟨a,3,none⟩ (.int .i64 0));rw [s] at t x y;have X:d a:=e.fg;obtain ⟨a4,a5,a6,J,j,F⟩:=hqq6 s t x y R O;clear s t x y e O m R;go_wp2_with fail;rw [a4.out];clear a9 L M;refine (eA (some ⟨w1.heap.size,0,none⟩) 1 1 _ [c] (f.alloc (.cells #[.bool c] 4)) (Rd.made' f 4 1 1 #[.bool c] w1.heap.size rfl J.out) nL dC).mono ?_;rintro q D ⟨rfl,u,V⟩;rw [World.size_alloc] at u;have w:Below f.heap.size f D:=(bR.alloc nL _).trans (V.mono (by simp));obtain ⟨ae,I⟩:=hqq2 (show TS D (Gw d b.heap.size) a k a2 l (-1) 0 from ⟨_,_,_,_,a5.out.below w⟩) (a6.out.trans (Keep.of_below w));have ai:=I.out.size;have aA:=J.out;have H:=lhd u;clear V w u;rw [World.size_alloc];go_wp2_with fail;have W:wX k l:=⟨j.out.nodup_iff.2 List.nodup_range,fun g ah=>zCi.1 (j.out.mem_iff.1 ah),fun _=>by rw [j.out.length_eq,zCh];exact zAs _⟩;refine (rP (Gw d b.heap.size) a k (f.heap.size+1) a2 l (-1) 0 [c] D ae.out (fun o af=>.inr (zAk ai af)) (by have:=F.out;omega) W H.out (by simp)).mono ?_;rintro q a1 ⟨g,rfl,z,am,N,A,⟨ac,a3,aa,al,i⟩,a0,aj,B⟩;have ay:=i.rd.blk.lt;have ar:=i.rd.blk.frozen 2;have ao:=i.rd.c2;have n:=i.setrt (g:Int);have M:=n.rd.blk.frozen 3;have L:=n.rd.c3;have C:=n.setv 1;have T:Bk ((a1.setCell ⟨a,2,none⟩ (.int .i64 (g:Int))).setCell ⟨a,3,none⟩ (.int .i64 1)) (f.heap.size+1) 240 (cC [c]):=by have v:=B.blk _ _ (by simp) H.out;exact (v.far (p:=⟨a,2,none⟩) (Bk.ne v i.rd.blk dC) _).far (p:=⟨a,3,none⟩) (Bk.ne v i.rd.blk dC) _
 have a7:=lhd (mU (((I.out.trans B.keep).setCell (p:=⟨a,2,none⟩) (.inl (.inl X)) (.int .i64 (g:Int))).setCell (p:=⟨a,3,none⟩) (.inl (.inl X)) (.int .i64 1)));have Z:([g]++N).Perm (List.range z):=qN (U:= []) j.out A;have Y:z<=200:=by have:=F.out;rcases A with ⟨_,q,_⟩|⟨r,_,_,aq⟩;omega;have Q:=j.out.length_eq;rw [r,zCh] at Q;have aw:0=k:=Q;omega
 have K:=lhd (show TreeEo ((a1.setCell ⟨a,2,none⟩ (.int .i64 (g:Int))).setCell ⟨a,3,none⟩ (.int .i64 1)) (Gw d b.heap.size) a (aEZ none 0 c)/\_ from ⟨⟨ac,a3,aa,z,am,al,N,_,_,C,Y,.inr ⟨.lf g (f.heap.size+1) [c],rfl,⟨a0,T⟩,rfl,⟨by simp,by simp⟩,by simp [LT.len,LT.er,Tr.bits],Z,by simp [LT.blks],fun au ag=>.inr (by simp [LT.blks] at ag;omega)⟩⟩,C.rd.c3⟩);clear A i a0 aj B n C T Z Y W;go_wp2_with fail;go_ret;exact ⟨rfl,K.out.1,a7.out,1,by omega,K.out.2⟩
def vZ (e:Nat->Prop) (a b:Nat) (f:Bool) (c:Option Tr) (d:World) (g:TreeEo d e a c) (k:(bK c).length < 1100) (i:b<=(bK c).length):
 Calls prog 117 #[a,(b:Int),.bool f] d (aFq e a b f c d):=by
 cases c with
 | none=>
   obtain rfl:b=0:=(by simpa [bK] using i);exact oW e a f d g
 | some j=>exact oV e a b f j d g k i
def aBR {b:Option Tr} {a:Nat} (c:Bool) (d:a<=(bK b).length):bK (aEZ b a c)=aI (bK b) a c:=by
 cases b with
 | none=>
   obtain rfl:a=0:=(by simpa [bK] using d);rfl
 | some e=>exact Tr.ins_bits e a c d
def aAG (c:Option Tr) (b:Nat):Option Tr:=
 match c with
 | none=>none
 | some a=>if a.bits.length=1 then none else some (a.drp b)
def Tr.Ok.one {a:Tr} (c:a.Ok) (f:a.bits.length < 32):∃b,a=.lf b:=by
 cases a with
 | lf b=>exact ⟨b,rfl⟩
 | nd d e=>
   have:=aDl c.2;have:=Tr.lv_pos (.nd d e);omega
def aEx (c:Nat->Prop) (i e:Nat) (j:List Value) (f:List Nat) (l:Int) (w:e<=50000) (a:LT) (d:Nat) (n:Int) (b:World) (p:TS b c i e j f l n) (r:a.In b j) (x:(a.nums++f).Perm (List.range e)) (u:a.blks.Nodup) (q:∀g,g∈a.blks->c g) (v:∀o,b.heap.size<=o->c o) (s:d < a.len) (k:a.er.Ok) (B:a.len<=1100):
 Calls prog 264 #[i,(a.num:Int),(d:Int)] b (jM c i e a j f l (a.bits.getD d false) (a.er.drp d) b):=by
 have A:a.ht<=a.len:=k.ht_len;cases a with
 | lf m g t=>exact tR c i e d m g t j f l n b p r (q g (by simp [LT.blks])) k.2 s
 | nd m y z=>exact rU c i e j f l w (.nd m y z) d [] n b p r (by simpa using x) u q v s k.1 k.2 ⟨by omega,by omega⟩
def aFP (a:Nat->Prop) (g b:Nat) (c:Option Tr) (d:World) (f:Ending) (e:World):Prop:=f=.returned (.tuple #[.bool ((bK c).getD b false),.int .i64 0])/\TreeEo e (Gw a d.heap.size) g (aAG c b)/\Keep a d e
def wH (j:Nat->Prop) (a f:Nat) (w:Option Tr) (g:World) (F:TreeEo g j a w) (W:f < (bK w).length):
 Calls prog 227 #[a,(f:Int)] g (aFP j a f w g):=by
 have aw:=tX a w f g F.at W;obtain ⟨aY,aq⟩:=eqx ((bK w).getD f false);have V:j a:=by obtain ⟨_,_,_,_,_,_,_,_,_,i,_⟩:=F;exact i.fg
 obtain ⟨N,aJ,M⟩:=hqq3 aq F W;clear F W aq;go_enter func227,ntmps227;go_wp2_with fail;refine aw.mono ?_;rintro B w1 ⟨rfl,Z⟩;clear aw;have q:=aJ.out.vis Z.1;have X:Keep (Gw j g.heap.size) g w1:=Z.2.mono fun bL _ B=>by rw [B];exact .inl V
 have aB:=X.size;obtain ⟨br,bb,bm,m,aI,bI,ag,bH,aH,D,ah,⟨Q,_,_⟩|⟨e,Q,ax,rfl,aj,ak,al,am,an⟩⟩:=q;subst Q;exact absurd M.out (Nat.not_lt_zero _);subst Q;have bj:=D.rd.c2;have bv:=D.rd.blk.lt;have ao:TS w1 (Gw j g.heap.size) a m aI ag (e.num:Int) aH:=⟨_,_,_,_,D.mono (G:=Gw j g.heap.size) fun P _ b0=>.inl b0⟩;obtain ⟨aL,aP,aQ,L,a1,a2,aK,a3,z⟩:=hqq9 ao ax X aj ak al am an ah;clear ao ax X aj ak al am an D ah Z;go_wp2_with fail;refine (aEx (Gw j g.heap.size) a m aI ag (e.num:Int) (by have:=z.out;omega) e f aH w1 aL.out aP.out a2.out aK.out (fun i U=>.inl (a3.out i U)) (fun P l=>.inr (zAk aB l)) M.out L.out a1.out).mono ?_;rintro B k ⟨d,y,u,ba,rfl,⟨E,bc,A,aG,b⟩,x,r,aC,aD,aE,b9,aF⟩;rw [show e.bits.getD f false=aY from N.out];obtain ⟨ai,bo,rfl,S⟩:=b.rd.ex (by have:=r.at.lt b.rd.len;omega);have J:f < e.er.bits.length:=M.out;have ar:(e.er.drp f).bits.length+1=e.er.bits.length:=by rw [Tr.drp_bits _ _ J];have:=bF e.er.bits J;omega
 obtain ⟨bd,be,bf,bg,a0,C⟩:=d.cel;obtain ⟨o,T⟩:=eqx d.len;rw [T] at C;obtain ⟨_,_,_,ae,_⟩:=b.rd.at (show At8 y d.num [_,_,_,_,_,_,_,_] from C ▸ r.at);obtain ⟨c,v⟩:=eqx d.num;have b4:c < m:=by have:=r.at.lt b.rd.len;omega
 have bA:((c:Nat):Int) < (m:Int):=oM;rw [v] at ae;rw [v];have bw:=b.rd.blk.lt;have bu:=S.lt;have b1:=b.rd.blk.frozen 2;have bD:=Bk.ne b.rd.blk S dC;have aZ:=b.rd.c1;have bi:=b.rd.c0;have bk:=b.rd.c2;have n:=lhd (b.setrt (c:Int));have a9:=lhd (r.keep (w':=k.setCell ⟨a,2,none⟩ (.int .i64 (c:Int))) (fun _ _ _ t=>t) fun i _ bn l=>l.far (p:=⟨a,2,none⟩) (Bk.ne l b.rd.blk dC) _);have I:=((aQ.out.trans aF.keep).setCell (p:=⟨a,2,none⟩) (.inl (.inl V)) (.int .i64 (c:Int)));have b7:=I.size;have ad:(k.setCell ⟨a,2,none⟩ (.int .i64 (c:Int))).cell? ⟨a,1,none⟩=some (.slice (some ai) m A):=n.out.rd.c1;have ac:(k.setCell ⟨a,2,none⟩ (.int .i64 (c:Int))).cell? a=some (.pointer (some E)):=n.out.rd.c0;have af:(k.setCell ⟨a,2,none⟩ (.int .i64 (c:Int))).cell? ⟨ai,c*8+3,none⟩=some (.int .i64 (o:Int)):=by obtain ⟨_,_,_,o,_⟩:=n.out.rd.at (show At8 y d.num [_,_,_,_,_,_,_,_] from C ▸ r.at);rw [v] at o;exact o
 have Y:k.heap.size=(k.setCell ⟨a,2,none⟩ (.int .i64 (c:Int))).heap.size:=by simp [World.setCell]
 obtain ⟨ab,R⟩:=eqx (k.setCell ⟨a,2,none⟩ (.int .i64 (c:Int)));rw [R] at n a9 I b7 ad ac af Y;obtain ⟨a4,aU,a6,s,aa,aV⟩:=hqq6 R Y I x (aC.trans a2.out) aD;have aW:=lhd (fun i U=>(aE i U).elim (fun t=>.inl (a3.out i t)) fun t=>.inr (zAk aB t):∀i,i∈d.blks->Gw j g.heap.size i);obtain ⟨O,a8,a5,aT⟩:=hqq4 T v ar J;have bz:=n.out.rd.blk.lt;clear R Y I b x r aC aD aE b9 aF T v ar J S C;rcases zBa o with au | au
 · subst au;have q:e.er.bits.length=1:=(by have:=a5.out;have:=O.out;rw [show d.len=d.er.bits.length from rfl,s.out] at this;omega);have H:aAG (some e.er) f=none:=(by unfold aAG;simp [q]);have aA:d.nums= [c]:=by
    have:=a8.out;obtain ⟨P,l⟩:=L.out.one oM;cases d with
    | lf b8 bq bh=>simpa [LT.nums,LT.num] using this
    | nd b8 bE bG=>
      have:=s.out;rw [l] at this;cases this
   have K:=aa.out;rw [aA] at K;have b5:c∉u:=(by have:=K.nodup_iff.2 List.nodup_range;rw [List.singleton_append,List.nodup_cons] at this;exact this.1);have av:Bk (ab.alloc (.cells #[(c:Int)] 3)) k.heap.size 3 #[(c:Int)]:=(by rw [aU.out];exact Bk.new ab _ _);have ap:=n.out.below (bR.alloc nL (.cells #[(c:Int)] 3));have ay:=a6.out.alloc (.cells #[(c:Int)] 3);obtain ⟨aO,aM,aR,aN,a7⟩:=hqq5 av ap ay H K;clear av ap ay H K aA q;go_wp2_with fail;rw [a4.out];have b3:u.length<=1000000:=(by have q:=a7.out.length_eq;have bs:=z.out;simp only [zAi,zCh] at q;omega);refine (aDM (Gw j g.heap.size) a E A m c k.heap.size _ y aG u _ ba _ aM.out (fun P l=>.inr (by rw [World.size_alloc] at l;omega)) b4 b5 aO.out b3).mono ?_;rintro B bJ ⟨rfl,b,x⟩;have bp:=b.rd.blk.frozen 2;have bl:=b.rd.c2;have bx:=b.rd.blk.lt;have aX:=lhd (b.setrt (-1));have aS:=lhd (mU ((aR.out.trans x.keep).setCell (p:=⟨a,2,none⟩) (.inl (.inl V)) (.int .i64 (-1))));clear b x ad ac af ae aZ b1;go_wp2_with fail;go_ret2;refine ⟨by rw [N.out];rfl,?_,aS.out⟩;rw [aN.out];exact ⟨E,_,A,m,y,_,u++ [c],_,_,aX.out,z.out,.inl ⟨rfl,rfl,(List.perm_append_comm).trans a7.out⟩⟩
 · have bt:((o:Int)==0)=false:=(by rw [zCb];omega);go_wp2_with fail;rw [a4.out];go_ret2;have bB:=a5.out;have b2:d.er.bits.length=o:=O.out;rw [s.out] at b2;have az:e.er.bits.length≠1:=oM;have H:aAG (some e.er) f=some d.er:=(by unfold aAG;simp only [];rw [zBw az,s.out]);have b6:d.er.Ok:=(by rw [s.out];exact Tr.drp_ok _ _ aT.out L.out az);have bC:e.er.bits.length<=1100:=a1.out;refine ⟨by rw [N.out];rfl,?_,mU a6.out⟩;rw [H];exact ⟨E,_,A,m,y,aG,u,_,_,n.out,z.out,.inr ⟨d,rfl,a9.out,by rw [a8.out],b6,by rw [O.out];omega,aa.out,aV.out,aW.out⟩⟩
def aB1 {b:Option Tr} {a:Nat} (d:a < (bK b).length):bK (aAG b a)=aC (bK b) a:=by
 cases b with
 | none=>exact absurd d (Nat.not_lt_zero _)
 | some c=>
   have e:a < c.bits.length:=d;have g:=bF c.bits e;unfold aAG;simp only [];split
   · rename_i f
     exact (zBk (by show (aC c.bits a).length=0;omega)).symm
   exact Tr.drp_bits c a e
def rH (c:Nat->Prop) (e a:Nat) (d:List Bool) (b:World) (f:TreeE b c e d) (j:a < d.length):
 Calls prog 227 #[e,(a:Int)] b fun i g=>i=.returned (.tuple #[.bool (d.getD a false),.int .i64 0])/\TreeE g (Gw c b.heap.size) e (aC d a)/\Keep c b g:=by
 obtain ⟨n,rfl,f⟩:=f;refine (wH c e a n b f j).mono ?_;rintro i g ⟨k,l,m⟩;exact ⟨k,⟨_,aB1 j,l⟩,m⟩
end Go.Proofs.YtnmapianpjamnaaGreatDoor
