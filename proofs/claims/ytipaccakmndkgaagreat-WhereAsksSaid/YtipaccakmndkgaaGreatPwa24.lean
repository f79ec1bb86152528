/- A text's walk (LvW), live's Len. Conditions: a text of at most 127 bytes. A region that draws its order in a round of a range over a function, by the same laws as elsewhere; the contract of slices.Backward's iterator over bytes. No conditions. -/
import Derived.Test.YtipaccakmndkgaaGreatPwa22
import Derived.Test.YtipaccakmndkgaaGreatPwa14
import Derived.Test.YtipaccakmndkgaaGreatPwa18
import Derived.RangeFuncNested
import Derived.RangeFuncBound
import Derived.RangeFuncCalls
import Derived.RangeFuncLeaves
import Derived.Shelf.Abstract
import Derived.Shelf.RegionOpen
import Derived.OwnWalkIn
import Derived.TacticsInMore
import Derived.LoopNIn
import Derived.LoopIn
namespace Go.Proofs.YtipaccakmndkgaaGreat
open Go.RowKit Go.Shelf
set_option linter.unusedVariables false
set_option linter.unusedSimpArgs false
theorem ShelfRow.same {w w':World} {B:Nat} {v:Value} {L:List Nat} {lv m:Nat} (h:ShelfRow w B v L lv m) (k:∀b t cs,Bk w b t cs→Bk w' b t cs):ShelfRow w' B v L lv m:=by
 obtain ⟨G,h1,h2⟩:=h
 exact ⟨G,own_same h1 fun b cs _ hb=>k _ _ _ hb,fun p hp=>⟨(h2 p hp).1,(h2 p hp).2.same fun b t cs _ hb=>k _ _ _ hb⟩⟩
theorem WalkAt.same {w w':World} {B gk:Nat} {L:List Nat} (h:WalkAt w B gk L) (k:∀b t cs,Bk w b t cs→Bk w' b t cs):WalkAt w' B gk L:=by
 obtain ⟨gv,gt,h1,⟨h0,S,v,h2,h3⟩,h4⟩:=h
 exact ⟨gv,gt,k _ _ _ h1,⟨h0,S,v,k _ _ _ h2,fun lv hl=>(h3 lv hl).same k⟩,k _ _ _ h4⟩
def LvW (w:World) (B gl:Nat) (L:List Nat):Prop:=∃gk r1 r2 r3,Bk w gl 42 #[.pointer (some ⟨gk,0,none⟩),r1,r2,r3]∧WalkAt w B gk L
theorem LvW.vis {w w':World} {B gl:Nat} {L:List Nat} (h:LvW w B gl L) (k:Vis w w'):LvW w' B gl L:=by
 obtain ⟨gk,r1,r2,r3,h1,h2⟩:=h
 exact ⟨gk,r1,r2,r3,k.bk h1 (by decide) (by decide),h2.vis k⟩
theorem LvW.same {w w':World} {B gl:Nat} {L:List Nat} (h:LvW w B gl L) (k:∀b t cs,Bk w b t cs→Bk w' b t cs):LvW w' B gl L:=by
 obtain ⟨gk,r1,r2,r3,h1,h2⟩:=h
 exact ⟨gk,r1,r2,r3,k _ _ _ h1,h2.same k⟩
theorem LvW.lt {w:World} {B gl:Nat} {L:List Nat} (h:LvW w B gl L):gl < w.heap.size:=by
 obtain ⟨gk,r1,r2,r3,h1,h2⟩:=h
 exact h1.lt
theorem ShelfRow.sameT {w w':World} {B:Nat} {v:Value} {L:List Nat} {lv m:Nat} (h:ShelfRow w B v L lv m) (k:∀b t cs,t≠3→Bk w b t cs→Bk w' b t cs):ShelfRow w' B v L lv m:=by
 obtain ⟨G,h1,h2⟩:=h
 exact ⟨G,own_same h1 fun b cs _ hb=>k _ _ _ (by decide) hb,fun p hp=>⟨(h2 p hp).1,(h2 p hp).2.same fun b t cs ht hb=>k _ _ _ (by rintro rfl;revert ht;decide) hb⟩⟩
theorem LvW.sameT {w w':World} {B gl:Nat} {L:List Nat} (h:LvW w B gl L) (k:∀b t cs,t≠3→Bk w b t cs→Bk w' b t cs):LvW w' B gl L:=by
 obtain ⟨gk,r1,r2,r3,h0,gv,gt,h1,⟨hB,S,v,h2,h3⟩,h4⟩:=h
 exact ⟨gk,r1,r2,r3,k _ _ _ (by decide) h0,gv,gt,k _ _ _ (by decide) h1,⟨hB,S,v,k _ _ _ (by decide) h2,fun lv hl=>(h3 lv hl).sameT k⟩,k _ _ _ (by decide) h4⟩
theorem LvW.visI {w w':World} {B gl g:Nat} {x y:Value} {L:List Nat} (h:LvW w B gl L) (k:VisF (fun b=>b=g) w w') (hb:Bk w g 3 #[x]) (hb':Bk w' g 3 #[y]):LvW w' B gl L:=by
 have hg:Bk (w'.setCell ⟨g,0,none⟩ x) g 3 #[x]:=hb'.set 0 x
 have hfar:∀b,b≠g→(w'.setCell ⟨g,0,none⟩ x).heap[b]?=w'.heap[b]?:=fun b hn=>heap_setCell_other w' ⟨g,0,none⟩ b x hn
 have hu:Vis w (w'.setCell ⟨g,0,none⟩ x):=by
  refine ⟨k.os,k.tape,k.output,by simpa [World.setCell] using k.size,fun b hlt _=>?_⟩
  by_cases e:b=g
  · subst e
    exact .inl (hg.trans hb.symm)
  · rcases k.block b hlt e with f |⟨cs,v,f,f'⟩|⟨cs,v,f,f'⟩
    · exact .inl ((hfar b e).trans f)
    · exact .inr (.inl ⟨cs,v,f,(hfar b e).trans f'⟩)
    · exact .inr (.inr ⟨cs,v,f,(hfar b e).trans f'⟩)
 refine (h.vis hu).sameT fun b t cs ht hbk=>?_
 have e:b≠g:=fun e=>by
  subst e
  exact ht (bk_inj hbk hg).1
 exact (hfar b e).symm.trans hbk
theorem LiveAt.lvw {w:World} {Bw gl gk gp ga:Nat} {vl vo vt:Value} {B n rate:Nat} {L:List Nat} {C:List (Nat×Nat)} {tk:List Bool} (h:LiveAt w Bw gl gk gp ga vl vo vt B n rate L C tk):LvW w Bw gl L:=⟨gk,_,_,_,h.blk,h.walk⟩
set_option maxRecDepth 100000 in
theorem LiveLen_any (B gl:Nat) (L:List Nat) (n:Nat) (w:World) (h:LvW w B gl L) (hn:L.length=n+1) (hl:n≤1000000):
 Calls Tryz.prog 18 #[.pointer (some ⟨gl,0,none⟩)] w fun e w'=>e=.returned (.int .i64 (n:Int))∧w=w':=by
 obtain ⟨gk,r1,r2,r3,h1,h2⟩:=h
 have c0:=h1.cell 0
 have e1:IntKind.i64.wrap (((n+1:Nat):Int) - 1)=(n:Int):=by rw [IntKind.wrap_i64];omega
 clear h1
 go_enter Tryz.func18,Tryz.ntmps18
 go_wp2_with fail
 refine (WalkLen_any B gk L _ h2).mono ?_
 rintro e w' ⟨rfl,rfl⟩
 rw [hn]
 go_wp2_with fail
 go_ret
 exact ⟨ret_i64 (by omega),rfl⟩
theorem narL_mono (L:List Nat) (s:Nat) {a b:Nat} (h:a≤b):narL L s a≤narL L s b:=by
 unfold narL
 have:=(List.take_sublist_take_left (l:=L) h).count_le s
 omega
theorem narL_le (L:List Nat) (s k:Nat):narL L s k≤L.length:=by
 unfold narL
 have h1:=(List.take_sublist k L).count_le s
 have h2:L.countP (fun x=>decide (x < s))+L.count s≤L.length:=by
  induction L with
  | nil=>simp
  | cons x l ih=>
    have:=ih ((List.take_sublist k l).count_le s)
    rw [List.countP_cons,List.count_cons]
    by_cases h:x < s
    · have:¬x=s:=by omega
      simp [h,this]
      omega
    · by_cases h':x=s
      · simp [h,h']
        omega
      · simp [h,h']
        omega
 omega
end Go.Proofs.YtipaccakmndkgaaGreat
namespace Go.Proofs.YtipaccakmndkgaaGreat
open Go.RowKit Go.Shelf
set_option linter.unusedVariables false
set_option linter.unusedSimpArgs false
attribute [local go_sem] Oper.semAt_some
section
variable {P : Program} {ops : Array Oper} {md : Region.Mode} {Q : Exit → Act → World → Prop} {l n : Nat}
theorem uponIn_of {o:Oper} {a:Act} {K:Act→World→Prop} {r:Result Next} (h:o.upon P a K Q r):o.uponIn (Fence.wide.inRound l) n P a K Q r:=by
 cases r with
 | ok x w=>
   cases x with
   | value v=>exact h
   | skip=>exact h
   | defer d=>exact h
   | enter f args=>
     refine ⟨fun h=>(by simp [Fence.wide] at h),CallsIn.inRound l (callsIn_wide.2 (Calls.mono h ?_))⟩
     intro e w' he
     cases e <;> exact he
   | row row args=>
     refine ⟨fun h=>(by simp [Fence.wide] at h),fun c cs _=>?_⟩
     obtain ⟨v,w',hr,hs⟩:=h c cs
     exact ⟨v,w',hr,stepsIn_wide.2 hs⟩
   | _=>exact h.elim
 | halt x w=>cases x <;> exact h
theorem wpAnyIn_of (hno:¬LetsOut Q) (hd:∀(i:Nat) (o:Oper),ops[i]?=some o→∀c,o.op≠.defer c):∀(f:Nat) (listed:Array Bool) (a:Act) (w:World),wpAny P md ops Q f listed a w→wpAnyIn (Fence.wide.inRound l) n P md ops Q f listed a w:=by
 intro f
 induction f with
 | zero=>intro listed a w h;exact h
 | succ f ih=>
   intro listed a w h
   refine ⟨h.1,fun i hi=>?_⟩
   have h1:=h.2 i hi
   unfold wpOp at h1
   unfold wpOpIn
   cases ho:ops[i]? with
   | none=>
     rw [ho] at h1
     exact ih _ _ _ h1
   | some o=>
     rw [ho] at h1
     simp only at h1⊢
     by_cases hw:Region.wanted o (yielded ops a.tmps)=true
     · rw [if_pos hw] at h1⊢
       rcases h1 with h1 | h1
       · refine ⟨fun _ _=>trivial,?_⟩
         rw [Oper.semAt_eq _ _ _ (hd i o ho)]
         exact uponIn_of (Oper.wp_mono (fun a w=>ih _ a w) h1)
       · exact absurd h1.2 hno
     · rw [if_neg hw] at h1⊢
       exact ⟨fun _ _=>trivial,ih _ _ _ h1⟩
end
def KpB (b1 b2:Nat) (W W':World):Prop:=∀p:Addr,(p.block=b1∨p.block=b2)→W'.cell? p=W.cell? p
theorem KpB.trans {b1 b2:Nat} {A B C:World} (h:KpB b1 b2 A B) (k:KpB b1 b2 B C):KpB b1 b2 A C:=fun p hp=>(k p hp).trans (h p hp)
def bkL (zs:List UInt8) (k:Nat):List (Nat×UInt8):=(List.range k).map fun i=>(zs.length - 1 - i,zs.getD (zs.length - 1 - i) 0)
theorem bkL_succ (zs:List UInt8) (k:Nat):bkL zs (k+1)=bkL zs k++ [(zs.length - 1 - k,zs.getD (zs.length - 1 - k) 0)]:=by simp [bkL,List.range_succ]
theorem bkL_len (zs:List UInt8) (k:Nat):(bkL zs k).length=k:=by simp [bkL]
set_option maxRecDepth 100000 in
set_option maxHeartbeats 2000000 in
theorem Backward1_in (F:Fence) (n:Nat) (hf:F.fn 102) (hro:F.round=none) (hn:1≤n) (l Bs b off cap:Nat) (A:Option Addr) (zs:List UInt8) (hA:0 < zs.length→A=some ⟨b,off,none⟩) (hreach:zs.length≤1000000) (J Jx:List (Nat×UInt8)→World→Prop)
 (hY:∀pre x W,J pre W→pre.length < zs.length→YieldAt F (n - 1) Tryz.prog l #[.int .i64 (x.1:Int),.int .u8 (x.2.toNat:Int)] W fun e W'=>
  (e=.returned (.bool true)∧J (pre++ [x]) W'∧KpB Bs b W W')∨(e=.returned (.bool false)∧Jx (pre++ [x]) W'))
 (W:World) (hBs:W.cell? ⟨Bs,0,none⟩=some (.slice A zs.length cap)) (hc:∀j,j < zs.length→W.cell? ⟨b,off+j,none⟩=some (.int .u8 ((zs.getD j 0).toNat:Int))) (h0:J [] W):
 CallsIn F n Tryz.prog 102 #[.func (.yield l) #[] #[],.pointer (some ⟨Bs,0,none⟩)] W fun e W'=>(∃v,e=.returned v)∧
  ((∃ys,ys=bkL zs zs.length∧J ys W')∨(∃pre,True∧Jx pre W')):=by
 obtain ⟨len,hlen⟩:∃len,zs.length=len:=⟨_,rfl⟩
 rw [hlen] at hBs hreach
 have HA:=Lib.hid hA
 have Hlen:=Lib.hid hlen
 have HY:=Lib.hid hY
 have Hc:=Lib.hid hc
 have HB:=Lib.hid hBs
 have H0:=Lib.hid h0
 clear hlen hY hc h0 hA
 refine callsIn_of_wp Tryz.func102 rfl hf ?_ hro
 simp only [Tryz.ntmps102,List.size_toArray,List.length_cons,List.length_nil,Nat.reduceAdd,Nat.reduceSub,Array.replicate_succ,Array.replicate_zero,List.push_toArray,List.append_toArray,List.nil_append,List.cons_append]
 gi_wp2
 clear hBs
 gi_loopw [3] (fun i wr=>∃r:Nat,r≤len∧i=.int .i64 ((r:Int) - 1)∧J (bkL zs (len - r)) wr∧KpB Bs b W wr) (fun i _=>(intOf i+1).toNat)
 case atStart=>exact ⟨len,Nat.le_refl _,rfl,by rw [Nat.sub_self];exact H0.out,fun _ _=>rfl⟩
 case round=>
  obtain ⟨r,hr,rfl,hJ,hk⟩:=hrel
  rcases r with _ | j
  · have e:((0:Nat):Int) - 1=-1:=by omega
    rw [e]
    rw [Nat.sub_zero] at hJ
    have HJ:=Lib.hid hJ
    clear hJ hk
    gi_wp2
    go_end0
    exact ⟨⟨_,rfl⟩,.inl ⟨_,rfl,by rw [Hlen.out];exact HJ.out⟩⟩
  · have e:((j+1:Nat):Int) - 1=(j:Int):=by omega
    rw [e]
    have hbk:bkL zs (len - j)=bkL zs (len -(j+1))++ [(j,zs.getD j 0)]:=by
        rw [show len - j=(len -(j+1))+1 by omega,bkL_succ,Hlen.out,show len - 1 -(len -(j+1))=j by omega]
    have hcB:=(hk ⟨Bs,0,none⟩ (.inl rfl)).trans HB.out
    rw [HA.out (by rw [Hlen.out];omega)] at hcB
    have hcj:=(hk ⟨b,off+j,none⟩ (.inr rfl)).trans (Hc.out j (by rw [Hlen.out];omega))
    have hjl:j < len:=by omega
    obtain ⟨x,hx⟩:∃x,zs.getD j 0=x:=⟨_,rfl⟩
    rw [hx] at hcj hbk
    obtain ⟨fn,tmps,assign,body,hy,hR⟩:=HY.out (bkL zs (len -(j+1))) (j,x) wr hJ (by rw [bkL_len,Hlen.out];omega)
    dsimp only at hy
    have Hbk:=Lib.hid hbk
    have Hk:=Lib.hid hk
    clear hbk hk hJ e hx
    gi_wp2
    refine hR.mono ?_
    rintro e W3 (⟨rfl,hJ3,hk3⟩|⟨rfl,hJx3⟩)
    · have HJ3:=Lib.hid hJ3
      have Hk3:=Lib.hid hk3
      clear hJ3 hk3
      gi_wp2
      go_roundw
      case rel=>exact ⟨j,by omega,rfl,by rw [Hbk.out];exact HJ3.out,Hk.out.trans Hk3.out⟩
      case measure=>simp [intOf]
    · have HJ3:=Lib.hid hJx3
      clear hJx3
      gi_wp2
      refine bodyPost_ret (results_none rfl _ _ _) rfl ?_
      exact ⟨⟨_,rfl⟩,.inr ⟨_,trivial,HJ3.out⟩⟩
end Go.Proofs.YtipaccakmndkgaaGreat
