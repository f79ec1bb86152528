/- Pairs in any order of their numbers (PermR): the walks of perm's All, Next (the least one), Row. Conditions: at most 1000 pairs, by rising rows. The walk of live's Row: the row of the suffix from a place on. Conditions: a text of at most 127 bytes, as New makes it; a place that is there. -/
import Derived.Test.YtipaccakmndkgaaGreatDoorPfe20
import Derived.BigQuiet
import Derived.Test.YtipaccakmndkgaaGreatDoorPfe30
namespace Go.Proofs.YtipaccakmndkgaaGreatDoor
open Go.RowKit Go.Shelf
set_option linter.unusedVariables false
set_option linter.unusedSimpArgs false
def PermR (w:World) (gp R P:Nat) (pr:List (Nat×Nat)):Prop:=
 ∃B ga vl vo vt vf ks C tk fr,PermAt w B gp ga vl vo vt vf R P ks C tk fr∧ks.Pairwise (fun a b=>rowK C a < rowK C b)∧C.length≤1000∧ks.length≤1000∧pr=ks.map fun k=>(rowK C k,posK C k)
theorem PermR.le {w:World} {gp R P:Nat} {pr:List (Nat×Nat)} (h:PermR w gp R P pr):pr.length≤1000:=by
 obtain ⟨B,ga,vl,vo,vt,vf,ks,C,tk,fr,h1,h2,h3,h4,rfl⟩:=h
 rw [List.length_map]
 exact h4
theorem PermR.vis {w w':World} {gp R P:Nat} {pr:List (Nat×Nat)} (h:PermR w gp R P pr) (k:Vis w w'):PermR w' gp R P pr:=by
 obtain ⟨B,ga,vl,vo,vt,vf,ks,C,tk,fr,h1,h2⟩:=h
 exact ⟨B,ga,vl,vo,vt,vf,ks,C,tk,fr,h1.vis k,h2⟩
theorem PermR.lt {w:World} {gp R P:Nat} {pr:List (Nat×Nat)} (h:PermR w gp R P pr):gp < w.heap.size:=by
 obtain ⟨B,ga,vl,vo,vt,vf,ks,C,tk,fr,h1,h2⟩:=h
 exact h1.blk.lt
set_option maxRecDepth 100000 in
set_option maxHeartbeats 2000000 in
theorem PermAllG_any (B gp ga:Nat) (vl vo vt vf:Value) (R P:Nat) (ks:List Nat) (C:List (Nat×Nat)) (tk:List Bool) (fr:List Nat) (w:World) (h:PermAt w B gp ga vl vo vt vf R P ks C tk fr) (hC:C.length≤1000) (hK:ks.length≤1000):
 Calls Tryz.prog 166 #[.pointer (some ⟨gp,0,none⟩)] w (PAllPost w (ks.map fun k=>(rowK C k,posK C k))):=by
 obtain ⟨i0,hi0,hz0,hz1,hz2⟩:=info_parts pair_info
 have ho:=h.orow
 obtain ⟨A2,c2,rfl,_,_⟩:=own_shape ho
 obtain ⟨A1,c1,rfl,_,_⟩:=own_shape h.lrow
 have c1':w.cell? ⟨gp,1,none⟩=some (.slice A1 C.length c1):=(h.blk.cell 1).trans rfl
 have c2':w.cell? ⟨gp,2,none⟩=some (.slice A2 ks.length c2):=(h.blk.cell 2).trans rfl
 have hgp:=h.blk.lt
 obtain ⟨N,hN⟩:∃n,C.length=n:=⟨_,rfl⟩
 obtain ⟨n,hn⟩:∃n,ks.length=n:=⟨_,rfl⟩
 obtain ⟨pr,hpr⟩:∃pr,(ks.map fun k=>(rowK C k,posK C k))=pr:=⟨_,rfl⟩
 have hprl:pr.length=n:=by rw [←hpr,List.length_map,hn]
 rw [hpr]
 have H:=Lib.hid h
 have Hn:=Lib.hid hn
 have HN:=Lib.hid hN
 have Hpr:=Lib.hid hpr
 have Hprl:=Lib.hid hprl
 rw [hN] at c1' hC
 rw [hn] at c2' hK
 clear h ho hn hN hpr hprl
 unfold PAllPost
 go_enter Tryz.func166,Tryz.ntmps166
 go_wp2_with fail
 go_loopw [3,13] (fun v i wr=>∃k:Nat,k≤n∧i=.int .i64 (k:Int)∧wr.ownsRow w.heap.size 159 2 v k (pairsL (pr.take k))∧Below w.heap.size w wr) (fun _ i _=>n -(intOf i).toNat)
 case atStart=>exact ⟨0,Nat.zero_le _,rfl,World.ownsRow_nil _ _ _ _,Below.refl _ _⟩
 case round=>
  obtain ⟨k,hk,rfl,hown,hb⟩:=hrel
  have hsz:=hb.size
  by_cases hlt:k < n
  · have hkn:k < ks.length:=by rw [Hn.out];exact hlt
    obtain ⟨j,hj⟩:∃j,ks[k]?=some j:=⟨_,List.getElem?_eq_getElem hkn⟩
    have hjC:j < C.length:=H.out.lt j (List.mem_of_getElem? hj)
    have hjN:j < N:=by rw [←HN.out];exact hjC
    have hp:=H.out.below hb
    have ho2:=hp.orow
    obtain ⟨g2,k2,e2,_,hg2⟩:=World.ownsRow.form ho2 (by omega)
    obtain ⟨g1,k1,e1,_,hg1⟩:=World.ownsRow.form hp.lrow (by omega)
    injection e2 with e2a _ _
    injection e1 with e1a _ _
    subst e2a
    subst e1a
    have d2:wr.cell? ⟨g2,k,none⟩=some (.int .i64 (j:Int)):=(World.ownsRow.cellAt ho2 k (by omega)).trans (by rw [List.getElem?_map,hj];rfl)
    obtain ⟨p0,p1⟩:=pairsL_get C j hjC
    have d0:wr.cell? ⟨g1,j*2,none⟩=_:=(World.ownsRow.cellAt hp.lrow (j*2) (by omega)).trans p0
    have d1:wr.cell? ⟨g1,j*2+1,none⟩=_:=(World.ownsRow.cellAt hp.lrow (j*2+1) (by omega)).trans p1
    have d3:wr.cell? ⟨gp,1,none⟩=some (.slice (some ⟨g1,0,none⟩) N c1):=(hb.cell (p:=⟨gp,1,none⟩) hgp).trans c1'
    obtain ⟨a1,ha1⟩:∃x,rowK C j=x:=⟨_,rfl⟩
    obtain ⟨a2,ha2⟩:∃x,posK C j=x:=⟨_,rfl⟩
    have hnext:pairsL (pr.take (k+1))=pairsL (pr.take k)++ [.int .i64 (a1:Int),.int .i64 (a2:Int)]:=by
        have hc:pr[k]?=some (a1,a2):=by rw [←Hpr.out,List.getElem?_map,hj,←ha1,←ha2];rfl
        rw [List.take_add_one,hc]
        show pairsL (pr.take k++ [(a1,a2)])=_
        rw [pairsL_snoc]
        rfl
    rw [ha1] at d0
    rw [ha2] at d1
    have Hown:=Lib.hid hown
    have Hb:=Lib.hid hb
    have Hnext:=Lib.hid hnext
    clear hown hb hnext hp ho2 p0 p1 c1' c2' ha1 ha2 hj hjC hkn
    go_wp2_with (at_builtin;refine wpList_push _ rfl (.tmp 17) (.tmp 25) _ rfl w.heap.size 159 i0 (.agg #[.int .i64 0,.int .i64 0]) 2 16 Tryz.underlying131 hi0 hz0 hz1 hz2 rfl (by decide) _ k _ rfl Hown.out rfl rfl (by simp [Value.oneCell']) (by unfold maxLen;omega) (by omega) hsz ?_;intro v5 w5 hown5 hg5 hs5 hat5)
    have hb5:=below_grown Hb.out Hown.out hg5 hsz
    have Hb5:=Lib.hid hb5
    clear hb5 hg5 hat5
    exact ⟨⟨v5,_,_,⟨k+1,by omega,by go_num,by rw [Hnext.out];exact hown5,Hb5.out⟩,rfl,rfl,rfl⟩,by simp [intOf];omega⟩
  · obtain rfl:k=n:=by omega
    have htk:pr.take k=pr:=List.take_of_length_le (by rw [Hprl.out];exact Nat.le_refl _)
    rw [htk] at hown
    obtain ⟨A9,c9,rfl,hm9⟩:=made_of_own hown
    have Hm9:=Lib.hid hm9
    have Hb:=Lib.hid hb
    clear hown hm9 hb
    go_wp2_with fail
    go_ret
    exact ⟨A9,c9,by rw [Hprl.out];rfl,by rw [Hprl.out];exact Hm9.out,Hb.out⟩
theorem PermAllR_any (gp R P:Nat) (pr:List (Nat×Nat)) (w:World) (h:PermR w gp R P pr):
 Calls Tryz.prog 166 #[.pointer (some ⟨gp,0,none⟩)] w (PAllPost w pr):=by
 obtain ⟨B,ga,vl,vo,vt,vf,ks,C,tk,fr,h1,h2,h3,h4,rfl⟩:=h
 exact PermAllG_any B gp ga vl vo vt vf R P ks C tk fr w h1 h3 h4
def LeastOk (pr:List (Nat×Nat)) (pos:Nat) (z:Int):Prop:=(z=-1∧∀x∈pr,x.2 < pos)∨∃x∈pr,z=((x.2:Nat):Int)∧pos≤x.2∧∀y∈pr,pos≤y.2→x.2≤y.2
theorem least_snoc {l:List (Nat×Nat)} {pos:Nat} {z:Int} (h:LeastOk l pos z) (a1 a2:Nat):LeastOk (l++(some (a1,a2)).toList) pos (if pos≤a2∧(z < 0∨(a2:Int) < z) then (a2:Int) else z):=by
 have hmem:∀y:Nat×Nat,y∈l++(some (a1,a2)).toList↔y∈l∨y=(a1,a2):=fun y=>by simp
 rcases h with ⟨rfl,h1⟩|⟨x,hx,rfl,h1,h2⟩
 · by_cases c:pos≤a2
   · rw [if_pos ⟨c,.inl (by omega)⟩]
     refine .inr ⟨(a1,a2),(hmem _).2 (.inr rfl),rfl,c,fun y hy hp=>?_⟩
     rcases (hmem y).1 hy with hy | rfl
     · have:=h1 y hy
       omega
     · exact Nat.le_refl _
   · rw [if_neg (fun e=>c e.1)]
     refine .inl ⟨rfl,fun y hy=>?_⟩
     rcases (hmem y).1 hy with hy | rfl
     · exact h1 y hy
     · show a2 < pos
       omega
 · by_cases c:pos≤a2∧((x.2:Int) < 0∨(a2:Int) < (x.2:Int))
   · rw [if_pos c]
     have c2:a2 < x.2:=by omega
     refine .inr ⟨(a1,a2),(hmem _).2 (.inr rfl),rfl,c.1,fun y hy hp=>?_⟩
     rcases (hmem y).1 hy with hy | rfl
     · have:=h2 y hy hp
       show a2≤_
       omega
     · exact Nat.le_refl _
   · rw [if_neg c]
     refine .inr ⟨x,(hmem _).2 (.inl hx),rfl,h1,fun y hy hp=>?_⟩
     rcases (hmem y).1 hy with hy | rfl
     · exact h2 y hy hp
     · have hp':pos≤a2:=hp
       show x.2≤a2
       omega
def LeastPost (w:World) (C:List (Nat×Nat)) (pos:Nat) (e:Ending) (w':World):Prop:=∃z,e=.returned (.int .i64 z)∧LeastOk C pos z∧Below w.heap.size w w'
set_option maxRecDepth 100000 in
set_option maxHeartbeats 2000000 in
theorem PermNextG_any (gp R P:Nat) (C:List (Nat×Nat)) (pos:Nat) (w:World) (h:PermR w gp R P C):
 Calls Tryz.prog 127 #[.pointer (some ⟨gp,0,none⟩),.int .i64 (pos:Int)] w (LeastPost w C pos):=by
 have hall:=PermAllR_any gp R P C w h
 have hC:=h.le
 unfold PAllPost at hall
 obtain ⟨n,hn⟩:∃n,C.length=n:=⟨_,rfl⟩
 rw [hn] at hall hC
 have Hn:=Lib.hid hn
 clear h hn
 unfold LeastPost
 go_enter Tryz.func127,Tryz.ntmps127
 go_wp2_with fail
 refine hall.mono ?_
 rintro e w1 ⟨A,c,rfl,hm,hb1⟩
 clear hall
 have Hm:=Lib.hid hm
 have Hb1:=Lib.hid hb1
 clear hm hb1
 go_wp2_with fail
 go_loopw [5,11] (fun v i wr=>∃(k:Nat) (z:Int),k≤n∧i=.int .i64 (k:Int)∧v=.int .i64 z∧LeastOk (C.take k) pos z∧Below w1.heap.size w1 wr) (fun _ i _=>n -(intOf i).toNat)
 case atStart=>exact ⟨0,-1,Nat.zero_le _,rfl,rfl,.inl ⟨rfl,fun x hx=>by simp at hx⟩,Below.refl _ _⟩
 case round=>
  obtain ⟨k,z,hk,rfl,rfl,hz,hb⟩:=hrel
  have hsz:=hb.size
  by_cases hlt:k < n
  · have hkC:k < C.length:=by rw [Hn.out];exact hlt
    have hr:=Hm.out.rd.below (hb.mono (B:=w1.heap.size) (Nat.le_refl _))
    obtain ⟨b,off,rfl,hbb,hcell⟩:=hr.2 (by omega)
    obtain ⟨p0,p1⟩:=pairsL_get C k hkC
    have d0:=hcell _ _ p0
    have d1:=hcell _ _ p1
    obtain ⟨a1,ha1⟩:∃x,rowK C k=x:=⟨_,rfl⟩
    obtain ⟨a2,ha2⟩:∃x,posK C k=x:=⟨_,rfl⟩
    rw [ha1] at d0
    rw [ha2,←Nat.add_assoc] at d1
    have hcc:C[k]?=some (a1,a2):=by
        rw [←ha1,←ha2]
        unfold rowK posK
        rw [List.getD_eq_getElem?_getD,List.getElem?_eq_getElem hkC]
        rfl
    have hnx:∀y:Int,y=(if pos≤a2∧(z < 0∨(a2:Int) < z) then (a2:Int) else z)→LeastOk (C.take (k+1)) pos y:=fun y hy=>by
        rw [List.take_add_one,hcc,hy]
        exact least_snoc hz a1 a2
    have Hnx:=Lib.hid hnx
    have Hb:=Lib.hid hb
    have hb2:Below w1.heap.size w1 (wr.alloc (.cells #[.int .i64 (a1:Int),.int .i64 (a2:Int)] 159)):=hb.alloc hsz _
    have Hb2:=Lib.hid hb2
    clear hz hb hr hcell p0 p1 ha1 ha2 hb2 hnx hcc
    by_cases h1:pos≤a2
    · have n1:decide (pos≤a2)=true:=decide_eq_true h1
      by_cases h2:z < 0
      · have hok:LeastOk (C.take (k+1)) pos (a2:Int):=Hnx.out (a2:Int) (by rw [if_pos ⟨h1,.inl h2⟩])
        have Hok:=Lib.hid hok
        clear hok
        go_wp2_with fail
        go_roundw
        case rel=>exact ⟨k+1,(a2:Int),by omega,by go_num,by first | rfl | trivial,Hok.out,Hb2.out⟩
        case measure=>simp [intOf];omega
      · have n2:decide (z < 0)=false:=decide_eq_false h2
        by_cases h3:(a2:Int) < z
        · have hok:LeastOk (C.take (k+1)) pos (a2:Int):=Hnx.out (a2:Int) (by rw [if_pos ⟨h1,.inr h3⟩])
          have Hok:=Lib.hid hok
          clear hok
          go_wp2_with fail
          go_roundw
          case rel=>exact ⟨k+1,(a2:Int),by omega,by go_num,by first | rfl | trivial,Hok.out,Hb2.out⟩
          case measure=>simp [intOf];omega
        · have n3:decide ((a2:Int) < z)=false:=decide_eq_false h3
          have hok:LeastOk (C.take (k+1)) pos z:=Hnx.out z (by rw [if_neg (by omega)])
          have Hok:=Lib.hid hok
          clear hok
          go_wp2_with fail
          go_roundw
          case rel=>exact ⟨k+1,z,by omega,by go_num,by first | rfl | trivial,Hok.out,Hb2.out⟩
          case measure=>simp [intOf];omega
    · have n1:decide (pos≤a2)=false:=decide_eq_false h1
      have hok:LeastOk (C.take (k+1)) pos z:=Hnx.out z (by rw [if_neg (by omega)])
      have Hok:=Lib.hid hok
      clear hok
      go_wp2_with fail
      go_roundw
      case rel=>exact ⟨k+1,z,by omega,by go_num,by first | rfl | trivial,Hok.out,Hb2.out⟩
      case measure=>simp [intOf];omega
  · obtain rfl:k=n:=by omega
    have hbW:=Hb1.out.trans (hb.mono Hb1.out.size)
    have HbW:=Lib.hid hbW
    have htk:C.take k=C:=List.take_of_length_le (by rw [Hn.out];exact Nat.le_refl _)
    rw [htk] at hz
    have Hz:=Lib.hid hz
    clear hbW hz hb htk
    go_wp2_with fail
    go_ret
    exact ⟨z,rfl,Hz.out,HbW.out⟩
def RowPostG (w:World) (ks:List Nat) (C:List (Nat×Nat)) (pos:Nat) (e:Ending) (w':World):Prop:=∃k,k∈ks∧posK C k=pos∧e=.returned (.int .i64 ((rowK C k:Nat):Int))∧Below w.heap.size w w'
set_option maxRecDepth 100000 in
set_option maxHeartbeats 2000000 in
theorem PermRowG_any (B gp ga:Nat) (vl vo vt vf:Value) (R P:Nat) (ks:List Nat) (C:List (Nat×Nat)) (tk:List Bool) (fr:List Nat) (pos:Nat) (w:World) (h:PermAt w B gp ga vl vo vt vf R P ks C tk fr) (hk:ks.length≤1099511627776) (hC:C.length≤1099511627776) (hex:∃k∈ks,posK C k=pos):
 Calls Tryz.prog 128 #[.pointer (some ⟨gp,0,none⟩),.int .i64 (pos:Int)] w (RowPostG w ks C pos):=by
 have hhas:=PermHas_any B gp ga vl vo vt vf R P ks C tk fr pos w h hk
 obtain ⟨q,x,hq,hx1,hx2⟩:=firstI_some (p:=fun k=>decide (posK C k=pos)) (l:=ks) (by obtain ⟨k,hk1,hk2⟩:=hex;exact ⟨k,hk1,decide_eq_true hk2⟩) 0
 rw [hq,Nat.zero_add] at hhas
 have hx3:posK C x=pos:=of_decide_eq_true hx2
 have hqn:q < ks.length:=(List.getElem?_eq_some_iff.1 hx1).1
 have hxC:x < C.length:=h.lt x (List.mem_of_getElem? hx1)
 obtain ⟨g,cap,hvo,hnc,hgl⟩:=World.ownsRow.form h.orow (by omega)
 obtain ⟨g2,cap2,hvl,hnc2,hgl2⟩:=World.ownsRow.form h.lrow (by omega)
 subst hvo
 subst hvl
 have hpair:=(pairsL_get C x hxC).1
 have H:=Lib.hid h
 have Hx1:=Lib.hid hx1
 have Hx3:=Lib.hid hx3
 have Hpair:=Lib.hid hpair
 have hqI:(q:Int) < (ks.length:Int):=by omega
 have hxI:(x:Int) < (C.length:Int):=by omega
 have hq0:decide ((q:Int) < 0)=false:=by simp
 clear h hq hx1 hx2 hx3 hpair hex
 unfold RowPostG
 go_enter Tryz.func128,Tryz.ntmps128
 go_wp2_with fail
 refine hhas.mono ?_
 rintro e w1 ⟨rfl,hb1⟩
 have h1:=H.out.below hb1
 have c1:∀d,(w1.drewN d).cell? ⟨gp,1,none⟩=some (.slice (some ⟨g2,0,none⟩) C.length cap2):=fun d=>(h1.blk.cell 1).trans rfl
 have c2:∀d,(w1.drewN d).cell? ⟨gp,2,none⟩=some (.slice (some ⟨g,0,none⟩) ks.length cap):=fun d=>(h1.blk.cell 2).trans rfl
 have hgp:=h1.blk.lt
 have c3:∀d,(w1.drewN d).cell? ⟨g,q,none⟩=some (.int .i64 (x:Int)):=fun d=>(World.ownsRow.cellAt h1.orow q (by omega)).trans (by rw [List.getElem?_map,Hx1.out];rfl)
 have c4:∀d,(w1.drewN d).cell? ⟨g2,x*2,none⟩=some (.int .i64 ((rowK C x:Nat):Int)):=fun d=>(World.ownsRow.cellAt h1.lrow (x*2) (by omega)).trans Hpair.out
 have Hb1:=Lib.hid hb1
 have hgl1:=Nat.lt_of_lt_of_le hgl hb1.size
 have hgl21:=Nat.lt_of_lt_of_le hgl2 hb1.size
 obtain ⟨pp,hpp⟩:∃pp,rowK C x=pp:=⟨_,rfl⟩
 rw [hpp] at c4
 have Hpp:=Lib.hid hpp
 clear hhas hb1 h1 hpp
 go_wp2_with fail
 go_quiet (fail)
 go_wp2_with fail
 go_ret
 exact ⟨x,List.mem_of_getElem? Hx1.out,Hx3.out,by rw [Hpp.out];rfl,below_drewN Hb1.out _⟩
def RowPostR (w:World) (pr:List (Nat×Nat)) (pos:Nat) (e:Ending) (w':World):Prop:=∃r,(r,pos)∈pr∧e=.returned (.int .i64 (r:Int))∧Below w.heap.size w w'
theorem PermRowR_any (gp R P:Nat) (pr:List (Nat×Nat)) (pos:Nat) (w:World) (h:PermR w gp R P pr) (hex:∃x∈pr,x.2=pos):
 Calls Tryz.prog 128 #[.pointer (some ⟨gp,0,none⟩),.int .i64 (pos:Int)] w (RowPostR w pr pos):=by
 obtain ⟨B,ga,vl,vo,vt,vf,ks,C,tk,fr,h1,h2,h3,h4,rfl⟩:=h
 have hex':∃k∈ks,posK C k=pos:=by
  obtain ⟨x,hx,e⟩:=hex
  obtain ⟨k,hk,rfl⟩:=List.mem_map.1 hx
  exact ⟨k,hk,e⟩
 have hr:=PermRowG_any B gp ga vl vo vt vf R P ks C tk fr pos w h1 (by omega) (by omega) hex'
 refine hr.mono ?_
 rintro e w' ⟨k,hk,hp,rfl,hb⟩
 exact ⟨_,List.mem_map.2 ⟨k,hk,by rw [hp]⟩,rfl,hb⟩
set_option maxRecDepth 100000 in
set_option maxHeartbeats 2000000 in
theorem PermRowR_none (gp R P:Nat) (pr:List (Nat×Nat)) (pos:Nat) (w:World) (h:PermR w gp R P pr) (hno:∀x∈pr,x.2≠pos):
 Calls Tryz.prog 128 #[.pointer (some ⟨gp,0,none⟩),.int .i64 (pos:Int)] w fun e w'=>e=.returned (.int .i64 (-1))∧Below w.heap.size w w':=by
 obtain ⟨B,ga,vl,vo,vt,vf,ks,C,tk,fr,h1,h2,h3,h4,rfl⟩:=h
 have hhas:=PermHas_any B gp ga vl vo vt vf R P ks C tk fr pos w h1 (by omega)
 rw [firstI_none (p:=fun k=>decide (posK C k=pos)) (l:=ks) (fun k hk=>decide_eq_false (hno _ (List.mem_map.2 ⟨k,hk,rfl⟩))) 0] at hhas
 clear h1 h2 hno
 go_enter Tryz.func128,Tryz.ntmps128
 go_wp2_with fail
 refine hhas.mono ?_
 rintro e w1 ⟨rfl,hb1⟩
 have Hb1:=Lib.hid hb1
 clear hhas hb1
 go_wp2_with fail
 go_ret
 exact ⟨rfl,Hb1.out⟩
end Go.Proofs.YtipaccakmndkgaaGreatDoor
namespace Go.Proofs.YtipaccakmndkgaaGreatDoor
open Go.RowKit
set_option linter.unusedVariables false
set_option linter.unusedSimpArgs false
theorem row_zero {t:List UInt8} {rs:List Nat} (h:IsSuf (symL t) rs):rs[0]?=some t.length:=by
 obtain ⟨e1,e2,e3⟩:=symL_end t
 obtain ⟨j,hj,ej⟩:=h.row (p:=t.length) (by omega)
 rcases Nat.eq_zero_or_pos j with h0 | h0
 · subst h0
   rw [List.getElem?_eq_getElem hj,ej]
 · exfalso
   have h1:=List.pairwise_iff_getElem.1 h.sorted 0 j (by omega) hj h0
   rw [ej] at h1
   have hq:=h.lt (List.getElem_mem (show 0 < rs.length by omega))
   have hne:rs[0]'(by omega)≠t.length:=fun e=>by
    exact (List.pairwise_iff_getElem.1 h.nodup 0 j (by omega) hj h0) (by rw [e,ej])
   rw [sufLt_step,aN_getD (by omega:t.length < (symL t).length),aN_getD hq,e2] at h1
   have:=e3 (rs[0]'(by omega)) (by omega)
   rcases h1 with h1 | h1
   · omega
   · omega
theorem row_inj {l rs:List Nat} (h:IsSuf l rs) {i j p:Nat} (hi:rs[i]?=some p) (hj:rs[j]?=some p):i=j:=by
 obtain ⟨hi1,hi2⟩:=List.getElem?_eq_some_iff.1 hi
 obtain ⟨hj1,hj2⟩:=List.getElem?_eq_some_iff.1 hj
 rcases Nat.lt_trichotomy i j with h1 | h1 | h1
 · exact absurd (by rw [hi2,hj2]) (List.pairwise_iff_getElem.1 h.nodup i j hi1 hj1 h1)
 · exact h1
 · exact absurd (by rw [hi2,hj2]) (List.pairwise_iff_getElem.1 h.nodup j i hj1 hi1 h1)
end Go.Proofs.YtipaccakmndkgaaGreatDoor
