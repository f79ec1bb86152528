/- Plain laws: the backward search over a transform counts where a pattern stands. No conditions. The walk of the laws' Text: a text of at most so many bytes, of few letters or of all. Conditions: at most 1000 bytes are asked for. Plain laws: the rows that a search finds, and how often a pattern stands. No conditions. Plain laws: from a row to the row of the suffix one ahead. No conditions. -/
import Derived.Test.YtipaccakmndkgaaGreatDoorPfe23
import Derived.Test.YtipaccakmndkgaaGreatDoorPfe24
namespace Go.Proofs.YtipaccakmndkgaaGreatDoor
set_option linter.unusedVariables false
set_option linter.unusedSimpArgs false
def Pq (l:List Nat) (b:Bool):List Nat→Nat→Bool
 | [],_=>b
 | s::q,p=>decide (aN l p < (s:Int))||(decide (aN l p=(s:Int))&&Pq l b q (p+1))
def preQ (l:List Nat):List Nat→Nat→Bool
 | [],_=>true
 | s::q,p=>decide (aN l p=(s:Int))&&preQ l q (p+1)
theorem Pq_cons (l:List Nat) (b:Bool) (s:Nat) (q:List Nat) (p:Nat):Pq l b (s::q) p=(decide (aN l p < (s:Int))||(decide (aN l p=(s:Int))&&Pq l b q (p+1))):=rfl
theorem preQ_cons (l:List Nat) (s:Nat) (q:List Nat) (p:Nat):preQ l (s::q) p=(decide (aN l p=(s:Int))&&preQ l q (p+1)):=rfl
theorem sufLt_step (l:List Nat) (p q:Nat):sufLt l p q↔aN l p < aN l q∨(aN l p=aN l q∧sufLt l (p+1) (q+1)):=by
 constructor
 · rintro ⟨w,k,hk,h1,h2⟩
   rcases k with _ | k
   · exact .inl h2
   · refine .inr ⟨h1 0 (by omega),w,k,by omega,fun m hm=>?_,?_⟩
     · have:=h1 (m+1) (by omega)
       rwa [show p+(m+1)=p+1+m by omega,show q+(m+1)=q+1+m by omega] at this
     · rwa [show p+(k+1)=p+1+k by omega,show q+(k+1)=q+1+k by omega] at h2
 · rintro (h |⟨h0,w,k,hk,h1,h2⟩)
   · exact ⟨1,0,by omega,fun m hm=>absurd hm (by omega),h⟩
   · refine ⟨w+1,k+1,by omega,fun m hm=>?_,?_⟩
     · rcases m with _ | m
       · exact h0
       · have:=h1 m (by omega)
         rwa [show p+(m+1)=p+1+m by omega,show q+(m+1)=q+1+m by omega]
     · rwa [show p+(k+1)=p+1+k by omega,show q+(k+1)=q+1+k by omega]
theorem Pq_down {l:List Nat} {b:Bool} (q:List Nat):∀ {p p':Nat},sufLt l p' p→Pq l b q p=true→Pq l b q p'=true:=by
 induction q with
 | nil=>intro p p' _ h;exact h
 | cons s q ih=>
   intro p p' hlt h
   unfold Pq at h⊢
   simp only [Bool.or_eq_true,Bool.and_eq_true,decide_eq_true_eq] at h⊢
   rcases (sufLt_step l p' p).1 hlt with h1 |⟨h1,h2⟩
   · rcases h with h |⟨h,_⟩
     · exact .inl (by omega)
     · exact .inl (by omega)
   · rcases h with h |⟨h,h3⟩
     · exact .inl (by omega)
     · exact .inr ⟨by omega,ih h2 h3⟩
theorem take_down {R:Nat→Nat→Prop} {P:Nat→Bool} {rs:List Nat} (hs:rs.Pairwise R) (hd:∀x y,R x y→P y=true→P x=true):rs.take (rs.countP P)=rs.filter P:=by
 induction rs with
 | nil=>rfl
 | cons x l ih=>
   obtain ⟨h1,h2⟩:=List.pairwise_cons.1 hs
   rw [List.countP_cons,List.filter_cons]
   by_cases hx:P x=true
   · simp only [hx,if_true]
     rw [List.take_succ_cons,ih h2]
   · have h0:∀y∈l,¬P y=true:=fun y hy hp=>hx (hd x y (h1 y hy) hp)
     have hc:l.countP P=0:=List.countP_eq_zero.2 h0
     have hf:l.filter P= []:=List.filter_eq_nil_iff.2 h0
     simp [hx,hc,hf]
def Nq (l:List Nat) (b:Bool) (q:List Nat):Nat:=(List.range l.length).countP (Pq l b q)
theorem IsSuf.count {l rs:List Nat} (h:IsSuf l rs) (P:Nat→Bool):rs.countP P=(List.range l.length).countP P:=h.perm.countP_eq P
theorem take_count {l rs:List Nat} (h:IsSuf l rs) (b:Bool) (q:List Nat) (s:Nat):((lastL l rs).take (Nq l b q)).count s=(List.range l.length).countP (fun p=>decide (prevL l p=s)&&Pq l b q p):=by
 have e1:Nq l b q=rs.countP (Pq l b q):=(h.count _).symm
 rw [e1,lastL,←List.map_take,take_down h.sorted (fun x y hxy hy=>Pq_down q hxy hy),←h.count,List.count_eq_countP,List.countP_map,List.countP_filter]
 refine List.countP_congr fun p _=>?_
 simp [Function.comp,and_comm]
theorem prevL_zero {l:List Nat} (h:0 < l.length):prevL l 0=l.getD (l.length - 1) 0:=by
 unfold prevL
 rw [Nat.zero_add,Nat.mod_eq_of_lt (by omega)]
theorem prevL_succ {l:List Nat} {p:Nat} (h:p+1 < l.length):prevL l (p+1)=l.getD p 0:=by
 unfold prevL
 rw [show p+1+l.length - 1=p+l.length by omega,Nat.add_mod_right,Nat.mod_eq_of_lt (by omega)]
theorem aN_getD {l:List Nat} {p:Nat} (h:p < l.length):aN l p=((l.getD p 0:Nat):Int):=by
 rw [aN_lt h,List.getD_eq_getElem?_getD,List.getElem?_eq_getElem h]
 rfl
theorem count_prev {m:Nat} (f:Nat→Bool) (g:Nat→Bool) (h0:f 0=g m) (h1:∀p,p < m→f (p+1)=g p):(List.range (m+1)).countP f=(List.range (m+1)).countP g:=by
 rw [List.range_succ_eq_map,List.countP_cons,List.countP_map,←List.range_succ_eq_map,List.range_succ,List.countP_append,List.countP_cons,List.countP_nil,Nat.zero_add,h0]
 congr 1
 refine List.countP_congr fun p hp=>?_
 have hp':p < m:=by simpa using hp
 simp [Function.comp,h1 p hp']
theorem countP_or {α:Type} (l:List α) (f g:α→Bool) (h:∀x∈l,¬(f x=true∧g x=true)):l.countP (fun x=>f x||g x)=l.countP f+l.countP g:=by
 induction l with
 | nil=>rfl
 | cons x l ih=>
   rw [List.countP_cons,List.countP_cons,List.countP_cons,ih (fun y hy=>h y (by simp [hy]))]
   have:=h x (by simp)
   cases hf:f x <;> cases hg:g x <;> simp_all <;> omega
structure EndOk (l:List Nat) (m:Nat):Prop where
 len:l.length=m+1
 last:l.getD m 0=0
 pos:∀p,p < m→0 < l.getD p 0
theorem narL_Nq {l rs:List Nat} {m:Nat} (h:IsSuf l rs) (he:EndOk l m) (b:Bool) (q:List Nat) (s:Nat) (hs:0 < s):narL (lastL l rs) s (Nq l b q)=Nq l b (s::q):=by
 have hlen:=he.len
 unfold narL
 rw [take_count h]
 have e1:(lastL l rs).countP (fun x=>decide (x < s))=(List.range (m+1)).countP (fun p=>decide (l.getD p 0 < s)):=by
  rw [lastL,List.countP_map,h.count,hlen]
  refine count_prev _ _ ?_ fun p hp=>?_
  · show decide (prevL l 0 < s)=_
    rw [prevL_zero (by omega),hlen,Nat.add_sub_cancel]
  · show decide (prevL l (p+1) < s)=_
    rw [prevL_succ (by omega)]
 have e2:(List.range l.length).countP (fun p=>decide (prevL l p=s)&&Pq l b q p)=(List.range (m+1)).countP (fun p=>decide (l.getD p 0=s)&&Pq l b q (p+1)):=by
  rw [hlen]
  refine count_prev _ _ ?_ fun p hp=>?_
  · show (decide (prevL l 0=s)&&_)=(decide (l.getD m 0=s)&&_)
    rw [prevL_zero (by omega),hlen,Nat.add_sub_cancel,he.last]
    have:decide (0=s)=false:=by simp;omega
    rw [this]
    rfl
  · show (decide (prevL l (p+1)=s)&&_)=_
    rw [prevL_succ (by omega)]
 rw [e1,e2,←countP_or]
 · unfold Nq
   rw [hlen]
   refine List.countP_congr fun p hp=>?_
   have hp':p < m+1:=by simpa using hp
   rw [Pq_cons,aN_getD (by omega)]
   have f1:decide (((l.getD p 0:Nat):Int) < (s:Int))=decide (l.getD p 0 < s):=by rw [decide_eq_decide];omega
   have f2:decide (((l.getD p 0:Nat):Int)=(s:Int))=decide (l.getD p 0=s):=by rw [decide_eq_decide];omega
   rw [f1,f2]
 · intro p _
   simp only [Bool.and_eq_true,decide_eq_true_eq]
   rintro ⟨h1,h2,_⟩
   omega
theorem Nq_nil (l:List Nat):Nq l false []=0∧Nq l true []=l.length:=by
 constructor
 · unfold Nq
   exact List.countP_eq_zero.2 fun _ _ h=>by simp [Pq] at h
 · unfold Nq
   have:=(List.countP_eq_length (p:=Pq l true []) (l:=List.range l.length)).2 (fun _ _=>rfl)
   rw [this]
   simp
theorem symL_end (t:List UInt8):EndOk (symL t) t.length:=by
 refine ⟨symL_len t,?_,fun p hp=>?_⟩
 · unfold symL symB
   rw [List.getD_eq_getElem?_getD,List.getElem?_append_right (by simp)]
   simp
 · unfold symL symB
   rw [List.getD_eq_getElem?_getD,List.getElem?_append_left (by simpa using hp),List.getElem?_map,List.getElem?_eq_getElem hp]
   simp
theorem Pq_or (l:List Nat) (q:List Nat):∀p,Pq l true q p=(Pq l false q p||preQ l q p)∧¬(Pq l false q p=true∧preQ l q p=true):=by
 induction q with
 | nil=>intro p;exact ⟨rfl,fun h=>by simp [Pq] at h⟩
 | cons s q ih=>
   intro p
   obtain ⟨h1,h2⟩:=ih (p+1)
   rw [Pq_cons,Pq_cons,preQ_cons,h1]
   by_cases h3:aN l p < (s:Int)
   · have:¬aN l p=(s:Int):=by omega
     simp [h3,this]
   · by_cases h4:aN l p=(s:Int)
     · have e3:decide (aN l p < (s:Int))=false:=by simpa using h3
       have e4:decide (aN l p=(s:Int))=true:=by simpa using h4
       rw [e3,e4,Bool.false_or,Bool.true_and,Bool.false_or,Bool.true_and,Bool.true_and]
       exact ⟨rfl,h2⟩
     · simp [h3,h4]
def occ (l:List Nat) (q:List Nat):Nat:=(List.range l.length).countP (preQ l q)
theorem Nq_occ (l:List Nat) (q:List Nat):Nq l true q=Nq l false q+occ l q:=by
 unfold Nq occ
 rw [←countP_or _ _ _ fun p _=>(Pq_or l q p).2]
 exact List.countP_congr fun p _=>by rw [(Pq_or l q p).1]
end Go.Proofs.YtipaccakmndkgaaGreatDoor
namespace Go.Proofs.YtipaccakmndkgaaGreatDoor
open Go.RowKit
set_option linter.unusedVariables false
set_option linter.unusedSimpArgs false
theorem byte_ex (v:Int) (h0:0≤v) (h1:v≤255):∃c:UInt8,(c.toNat:Int)=v:=⟨UInt8.ofNat v.toNat,by
 rw [UInt8.toNat_ofNat']
 omega⟩
def fewOk (few:Bool) (T:List UInt8):Prop:=few=true→∀c∈T,97≤c.toNat∧c.toNat≤99
def TextPost (w:World) (most:Nat) (few:Bool) (e:Ending) (w':World):Prop:=∃T A' c',T.length≤most∧fewOk few T∧e=.returned (.slice A' T.length c')∧Made w' w.heap.size 5 1 A' T.length c' (T.map bv)∧Below w.heap.size w w'
set_option maxRecDepth 100000 in
set_option maxHeartbeats 2000000 in
theorem Text_any (A:Option Addr) (n c B:Nat) (l:List Int) (most:Nat) (few:Bool) (w:World) (hr:Rd w B 1 A n (l.map iv)) (hB:B≤w.heap.size) (hn:n≤maxLen) (hm:most≤1000):
 Calls Tryz.prog 14 #[.slice A n c,.int .i64 (most:Int),.bool few] w (TextPost w most few):=by
 obtain ⟨i0,hi0,hz0,hz1,hz2⟩:=info_parts u8_info
 unfold maxLen at hn
 have Hr:=Lib.hid (hr.mono hB)
 have hll:l.length=n:=by simpa using hr.1
 have Hll:=Lib.hid hll
 clear hr hll
 go_enter Tryz.func14,Tryz.ntmps14
 go_wp2_with fail
 go_loopw [7,8] (fun v i wr=>∃(k:Nat) (T:List UInt8),k≤n∧k≤most∧T.length=k∧fewOk few T∧i=.int .i64 k∧wr.ownsRow w.heap.size 5 1 v k (T.map bv)∧Below w.heap.size w wr) (fun _ i _=>n -(intOf i).toNat)
 case atStart=>exact ⟨0, [],by omega,by omega,rfl,fun _ c hc=>(by cases hc),rfl,World.ownsRow_nil _ _ _ _,Below.refl _ _⟩
 case round=>
  obtain ⟨k,T,hk,hkm,hT,hfew,rfl,hown,hb⟩:=hrel
  have hsz:=hb.size
  by_cases hlt:k < n∧k < most
  · obtain ⟨hlt1,hlt2⟩:=hlt
    obtain ⟨b,off,u,rfl,hbl,hu,hc⟩:=(Hr.out.below hb).get hlt1
    rw [List.getElem?_map] at hu
    obtain ⟨z,hz,rfl⟩:=Option.map_eq_some_iff.1 hu
    unfold iv at hc
    have Hown:=Lib.hid hown
    have Hb:=Lib.hid hb
    have Hfew:=Lib.hid hfew
    have HT:=Lib.hid hT
    clear hown hb hfew hT hu hz hbl
    have hkI:(k:Int) < (n:Int):=by omega
    have hmI:(k:Int) < (most:Int):=by omega
    cases few with
    | true=>
      obtain ⟨q,hq,hq3⟩:=umod_ex z 3 (by omega)
      obtain ⟨ch,hch⟩:=byte_ex (97+(q:Int)) (by omega) (by omega)
      have e1:IntKind.u64.wrap (97+(q:Int))=97+(q:Int):=by rw [IntKind.wrap_u64];omega
      have e2:IntKind.u8.wrap (97+(q:Int))=97+(q:Int):=by rw [IntKind.wrap_u8];omega
      have Hch:=Lib.hid hch
      clear hch
      go_wp2_with (at_builtin;refine wpList_push _ rfl (.tmp 21) (.tmp 30) _ rfl w.heap.size 5 i0 (.int .u8 0) 1 1 Tryz.underlying23 hi0 hz0 hz1 hz2 rfl (by decide) _ k _ rfl Hown.out rfl rfl (by simp [Value.oneCell']) (by unfold maxLen;omega) (by omega) hsz ?_;intro v2 w2 hown2 hg2 hs2 hat2)
      have hb3:=below_grown Hb.out Hown.out hg2 hsz
      go_roundw
      case rel=>
       refine ⟨k+1,T++ [ch],by omega,by omega,by simp [HT.out],fun h c hc=>?_,by go_num,?_,hb3⟩
       · rcases List.mem_append.1 hc with hc | hc
         · exact Hfew.out h c hc
         · simp at hc
           subst hc
           have:=Hch.out
           omega
       · rw [List.map_append]
         have e3:bv ch=.int .u8 (97+(q:Int)):=by unfold bv;rw [Hch.out]
         rw [List.map_cons,List.map_nil,e3]
         exact hown2
      case measure=>simp [intOf];omega
    | false=>
      have hwb:0≤IntKind.u8.wrap z∧IntKind.u8.wrap z≤255:=by rw [IntKind.wrap_u8];omega
      obtain ⟨ch,hch⟩:=byte_ex (IntKind.u8.wrap z) hwb.1 hwb.2
      have Hch:=Lib.hid hch
      clear hch hwb
      go_wp2_with (at_builtin;refine wpList_push _ rfl (.tmp 32) (.tmp 38) _ rfl w.heap.size 5 i0 (.int .u8 0) 1 1 Tryz.underlying23 hi0 hz0 hz1 hz2 rfl (by decide) _ k _ rfl Hown.out rfl rfl (by simp [Value.oneCell']) (by unfold maxLen;omega) (by omega) hsz ?_;intro v2 w2 hown2 hg2 hs2 hat2)
      have hb3:=below_grown Hb.out Hown.out hg2 hsz
      go_roundw
      case rel=>
       refine ⟨k+1,T++ [ch],by omega,by omega,by simp [HT.out],fun h c hc=>(by cases h),by go_num,?_,hb3⟩
       rw [List.map_append]
       have e3:bv ch=.int .u8 (IntKind.u8.wrap z):=by unfold bv;rw [Hch.out]
       rw [List.map_cons,List.map_nil,e3]
       exact hown2
      case measure=>simp [intOf];omega
  · subst hT
    obtain ⟨A',c',rfl,h3⟩:=made_of_own hown
    have H3:=Lib.hid h3
    have H4:=Lib.hid hb
    have H2:=Lib.hid hfew
    clear hown hb hfew h3
    by_cases hkn:T.length < n
    · have hkm':¬T.length < most:=fun h=>hlt ⟨hkn,h⟩
      have hmI:¬(T.length:Int) < (most:Int):=by omega
      clear hlt
      go_wp2_with fail
      go_ret
      exact ⟨T,A',c',hkm,H2.out,rfl,H3.out,H4.out⟩
    · clear hlt
      go_wp2_with fail
      go_ret
      exact ⟨T,A',c',hkm,H2.out,rfl,H3.out,H4.out⟩
end Go.Proofs.YtipaccakmndkgaaGreatDoor
namespace Go.Proofs.YtipaccakmndkgaaGreatDoor
set_option linter.unusedVariables false
set_option linter.unusedSimpArgs false
theorem rowsN_Nq {l rs:List Nat} {m:Nat} (h:IsSuf l rs) (he:EndOk l m) (p:List UInt8):rowsN (lastL l rs) p=(Nq l false (symB p),Nq l true (symB p)):=by
 have hL:(lastL l rs).length=l.length:=by rw [lastL_len,h.len]
 unfold rowsN
 rw [hL]
 induction p with
 | nil=>
   obtain ⟨h1,h2⟩:=Nq_nil l
   show (0,l.length)=(Nq l false [],Nq l true [])
   rw [h1,h2]
 | cons c p ih=>
   rw [List.reverse_cons,List.foldl_append,ih]
   show (narL _ (c.toNat+1) (Nq l false (symB p)),narL _ (c.toNat+1) (Nq l true (symB p)))=_
   rw [narL_Nq h he _ _ _ (by omega),narL_Nq h he _ _ _ (by omega)]
   rfl
theorem count_occ {t:List UInt8} {rs:List Nat} (h:IsSuf (symL t) rs) (p:List UInt8):(rowsN (lastL (symL t) rs) p).2 -(rowsN (lastL (symL t) rs) p).1=occ (symL t) (symB p):=by
 rw [rowsN_Nq h (symL_end t),Nq_occ]
 omega
end Go.Proofs.YtipaccakmndkgaaGreatDoor
namespace Go.Proofs.YtipaccakmndkgaaGreatDoor
open Go.RowKit
set_option linter.unusedVariables false
set_option linter.unusedSimpArgs false
noncomputable def ltP (l:List Nat) (p x:Nat):Bool:=@decide (sufLt l x p) (Classical.propDecidable _)
theorem ltP_iff (l:List Nat) (p x:Nat):ltP l p x=true↔sufLt l x p:=by
 unfold ltP
 exact @decide_eq_true_iff _ (Classical.propDecidable _)
theorem idx_count {l rs:List Nat} (h:IsSuf l rs) (i:Nat) (hi:i < rs.length):rs.countP (ltP l rs[i])=i:=by
 have h1:(rs.take i).countP (ltP l rs[i])=i:=by
  rw [List.countP_eq_length.2 fun x hx=>?_]
  · rw [List.length_take];omega
  · obtain ⟨k,hk,rfl⟩:=List.mem_iff_getElem.1 hx
    rw [List.length_take] at hk
    rw [List.getElem_take,ltP_iff]
    exact List.pairwise_iff_getElem.1 h.sorted k i (by omega) hi (by omega)
 have h2:(rs.drop i).countP (ltP l rs[i])=0:=List.countP_eq_zero.2 fun x hx hp=>by
  obtain ⟨k,hk,rfl⟩:=List.mem_iff_getElem.1 hx
  rw [List.length_drop] at hk
  rw [List.getElem_drop,ltP_iff] at hp
  rcases Nat.eq_zero_or_pos k with h0 | h0
  · subst h0
    exact sufLt.asymm hp hp
  · exact sufLt.asymm hp (List.pairwise_iff_getElem.1 h.sorted i (i+k) hi (by omega) (by omega))
 have e:rs.countP (ltP l rs[i])=(rs.take i++rs.drop i).countP (ltP l rs[i]):=congrArg (List.countP _) (List.take_append_drop i rs).symm
 rw [e,List.countP_append]
 omega
theorem take_countP {l rs:List Nat} (h:IsSuf l rs) (P:Nat→Bool) (hd:∀x y,sufLt l x y→P y=true→P x=true) (s:Nat):((lastL l rs).take (rs.countP P)).count s=(List.range l.length).countP (fun p=>decide (prevL l p=s)&&P p):=by
 rw [lastL,←List.map_take,take_down h.sorted hd,←h.count,List.count_eq_countP,List.countP_map,List.countP_filter]
 refine List.countP_congr fun p _=>?_
 simp [Function.comp,and_comm]
theorem lf {l rs:List Nat} {m:Nat} (h:IsSuf l rs) (he:EndOk l m) {i j p:Nat} (hi:i < rs.length) (hj:j < rs.length) (hip:rs[i]=p+1) (hjp:rs[j]=p):narL (lastL l rs) (l.getD p 0) i=j:=by
 have hlen:=he.len
 have hpm:p < m:=by have:=h.lt (List.getElem_mem hi);omega
 have hs:=he.pos p hpm
 obtain ⟨s,hsd⟩:∃s,l.getD p 0=s:=⟨_,rfl⟩
 rw [hsd] at hs⊢
 have ci:=idx_count h i hi
 have cj:=idx_count h j hj
 rw [hip] at ci
 rw [hjp] at cj
 have htk:=take_countP h (ltP l (p+1)) (fun x y hxy hy=>by rw [ltP_iff] at hy⊢;exact hxy.trans hy) s
 rw [ci] at htk
 rw [h.count] at cj
 unfold narL
 rw [htk]
 have e1:(lastL l rs).countP (fun x=>decide (x < s))=(List.range (m+1)).countP (fun p=>decide (l.getD p 0 < s)):=by
  rw [lastL,List.countP_map,h.count,hlen]
  refine count_prev _ _ ?_ fun p hp=>?_
  · show decide (prevL l 0 < s)=_
    rw [prevL_zero (by omega),hlen,Nat.add_sub_cancel]
  · show decide (prevL l (p+1) < s)=_
    rw [prevL_succ (by omega)]
 have e2:(List.range l.length).countP (fun x=>decide (prevL l x=s)&&ltP l (p+1) x)=(List.range (m+1)).countP (fun x=>decide (l.getD x 0=s)&&ltP l (p+1) (x+1)):=by
  rw [hlen]
  refine count_prev _ _ ?_ fun x hx=>?_
  · show (decide (prevL l 0=s)&&_)=(decide (l.getD m 0=s)&&_)
    rw [prevL_zero (by omega),hlen,Nat.add_sub_cancel,he.last]
    have:decide (0=s)=false:=by simp;omega
    rw [this]
    rfl
  · show (decide (prevL l (x+1)=s)&&_)=_
    rw [prevL_succ (by omega)]
 rw [e1,e2,←countP_or,←cj,hlen]
 · refine List.countP_congr fun x hx=>?_
   have hx':x < m+1:=by simpa using hx
   rw [ltP_iff,sufLt_step,aN_getD (by omega:x < l.length),aN_getD (by omega:p < l.length),hsd]
   simp only [Bool.or_eq_true,Bool.and_eq_true,decide_eq_true_eq,ltP_iff]
   constructor
   · rintro (h1 |⟨h1,h2⟩)
     · exact .inl (by omega)
     · exact .inr ⟨by omega,h2⟩
   · rintro (h1 |⟨h1,h2⟩)
     · exact .inl (by omega)
     · exact .inr ⟨by omega,h2⟩
 · intro x _
   simp only [Bool.and_eq_true,decide_eq_true_eq]
   rintro ⟨h1,h2,_⟩
   omega
theorem lastL_at {l rs:List Nat} {m:Nat} (he:EndOk l m) {i p:Nat} (hi:i < rs.length) (hip:rs[i]=p+1) (hp:p < m):(lastL l rs)[i]'(by rw [lastL_len];exact hi)=l.getD p 0:=by
 have hlen:=he.len
 unfold lastL
 rw [List.getElem_map,hip,prevL_succ (by omega)]
theorem IsSuf.row {l rs:List Nat} (h:IsSuf l rs) {p:Nat} (hp:p < l.length):∃j,∃hj:j < rs.length,rs[j]=p:=by
 obtain ⟨j,hj,e⟩:=List.mem_iff_getElem.1 (h.mem hp)
 exact ⟨j,hj,e⟩
theorem bits_at (L:List Nat) (k lv:Nat) (hk:k < L.length):(bitsOf L lv (pathN L[k] lv))[atLv L k L[k] lv]?=some (bitB L[k] lv):=by
 unfold bitsOf atLv
 have e:L=L.take k++L[k]::L.drop (k+1):=by rw [←List.drop_eq_getElem_cons hk,List.take_append_drop]
 generalize hs:L[k]=s at e⊢
 generalize L.take k=A at e⊢
 rw [e,List.filter_append,List.filter_cons,if_pos (by simp),List.map_append,List.countP_eq_length_filter,List.getElem?_append_right (by simp)]
 simp
end Go.Proofs.YtipaccakmndkgaaGreatDoor
