/- Lemmas of the walk. Conditions: each its own. -/
import Derived.Test.YtcfpmjbojoidoaaGreatDoorPd23
import Derived.Test.YtcfpmjbojoidoaaGreatDoorProg
import Derived.Test.YtcfpmjbojoidoaaGreatDoorSht
import Derived.Test.YtcfpmjbojoidoaaGreatDoorShd
import Derived.Test.YtcfpmjbojoidoaaGreatDoorShl
import Derived.Test.YtcfpmjbojoidoaaGreatDoorShi
import Derived.Test.YtcfpmjbojoidoaaGreatDoorShs
set_option linter.all false
set_option maxRecDepth 100000
set_option maxHeartbeats 4000000
open Go.Proofs.Tryz
namespace Go.Proofs.YtcfpmjbojoidoaaGreatDoor
open Go.RowKit
def iH (a:Bool) (b:Nat):List UInt8:=if a=true/\b % 3=0 then [] else [108,101,110]
def gR (a:Bool) (b:Nat):List (List UInt8):=(List.range b).map (iH a)
def uX (a:Bool) (b:Nat):List UInt8:=(gR a b).flatMap fun c=>c++ [10]
def uW (a:Bool) (b:Nat):List UInt8:=(gR a b).flatMap fun c=>if c= [] then [] else [48,10]
def pT (a:Bool) (b:Nat):gR a (b+1)=gR a b++ [iH a b]:=by
 unfold gR;rw [List.range_succ,zAz];rfl
def yY (a:Bool) (b:Nat):uX a (b+1)=uX a b++(iH a b++ [10]):=by
 unfold uX;rw [pT,List.flatMap_append];simp
def uV (a:Bool) (b:Nat):uW a (b+1)=uW a b++(if iH a b= [] then [] else [48,10]):=by
 unfold uW;rw [pT,List.flatMap_append];simp
def aAl (b:Bool) (d:Nat):∀a∈gR b d,a= []∨a= [108,101,110]:=by
 intro a c;obtain ⟨e,_,rfl⟩:=zAy.1 c;unfold iH;split;exact .inl rfl;exact .inr rfl
def aEk (b:Bool) (a:Nat):(uX b a).length<=4*a:=by
 induction a with
 | zero=>exact zAs _
 | succ a c=>
   rw [yY,zAi,zAi];have:(iH b a).length<=3:=(by unfold iH;split <;> simp);simp only [List.length_singleton];omega
def aG8 (b:Bool) (a:Nat):(uW b a).length<=2*a:=by
 induction a with
 | zero=>exact zAs _
 | succ a c=>
   rw [uV,zAi];have:(if iH b a= [] then ([]:List UInt8) else [48,10]).length<=2:=(by split <;> simp);omega
def sO (c:List (List UInt8)) (e:∀a∈c,a= []∨a= [108,101,110]):bK (c.flatMap fun a=>a++ [10])=c++ [[]]:=by
 induction c with
 | nil=>rfl
 | cons a f b=>
   have b:=b fun j i=>e j (List.mem_cons_of_mem _ i);rw [List.flatMap_cons];rcases e a (List.mem_cons_self ..) with rfl | rfl;show bK (10::(f.flatMap fun a=>a++ [10]))=_;unfold bK;rw [zBx rfl,b];rfl
   · show bK (108::101::110::10::(f.flatMap fun a=>a++ [10]))=_;have g:∀d,bK (10::d)= []::bK d:=fun d=>by rw [bK,zBx rfl]
     rw [bK,zBw dC,bK,zBw dC,bK,zBw dC,g,b];rfl
def aC3 (a:List (List UInt8)) (d:∀b∈a,b= []∨b= [108,101,110]):yS (a.flatMap fun b=>b++ [10])=a:=by
 unfold yS;have c:=sO a d;simp only [c,List.getLast_append,List.getLast_singleton,if_true];simp
def xG (ρ:List UInt8->List Nat) (e:Int) (c:List (List UInt8)) (d:∀a∈c,a= []∨a= [108,101,110]):bW ρ e [] c=c.flatMap fun a=>if a= [] then [] else [48,10]:=by
 induction c with
 | nil=>rfl
 | cons a j b=>
   have b:=b fun i g=>d i (List.mem_cons_of_mem _ g);rcases d a (List.mem_cons_self ..) with rfl | rfl;rw [bW,zBx rfl,List.flatMap_cons,zBx rfl,b];rfl;have f:iZ ρ e [] [108,101,110]=([], [48]):=(by kernel_rfl);rw [bW,zBw dC,List.flatMap_cons,zBw dC,f,b];rfl
def aI1 (b:Bool) (a:Nat):rM rhoS ((5:Nat):Int) (uX b a)=if 300 < a then [101,114,114,111,114,10] else uW b a:=by
 have c:yS (uX b a)=gR b a:=aC3 _ (aAl b a);have d:(gR b a).length=a:=by unfold gR;simp
 unfold rM;rw [c,d];split;rfl;exact xG _ _ _ (aAl b a)
def aJs (b:Bool) (c:Nat):∀d∈bK (uX b c),oH d:=by
 have e:bK (uX b c)=gR b c++ [[]]:=sO _ (aAl b c);rw [e];intro d a;rcases zCo.1 a with a | a
 · rcases aAl b c d a with rfl | rfl <;> exact ⟨by decide,by decide,by decide⟩
 simp at a;subst a;exact ⟨by decide,by decide,by decide⟩
def yD (t:Int) (b:Bool) (f:World) (l:TabD f):Calls prog 3 #[.int .i64 t,.bool b] f fun i S=>i=.returned (.bool true)/\Below f.heap.size f S:=by
 have I:=l.tab.pos;have J:=l.low.2;have K:=l.low.1;obtain ⟨c,a0,Z⟩:∃c:Nat,(IntKind.u64.wrap t).tmod 20=(c:Int)/\c < 20:=by
  have C:0<=IntKind.u64.wrap t:=by rw [IntKind.wrap_u64];omega
  refine ⟨((IntKind.u64.wrap t).tmod 20).toNat,?_,?_⟩;rw [Int.tmod_eq_emod_of_nonneg C];omega;rw [Int.tmod_eq_emod_of_nonneg C];omega
 have D:=wI f l;have d:=fun w1 (j:Below f.heap.size f w1)=>tV 5 5 (uX b (290+c)) w1 oM oM oM (by have:=aEk b (290+c);omega) (aJs b _) (l.below j I J K);have w:=aI1 b (290+c);rw [w] at d;obtain ⟨A,q⟩:=hqq2 D d;clear D d l w;go_enter func3,ntmps3;go_wp2_with fail;go_loopw [6,7,8] (fun U V z wr=>∃a:Nat,a<=290+c/\U=eJ (uX b a)/\V=eJ (uW b a)/\z=.int .i64 (a:Int)/\wr=f) (fun _ _ z _=>290+c -(intOf z).toNat)
 case atStart=>exact ⟨0,by omega,rfl,rfl,rfl,rfl⟩
 case round=>
  obtain ⟨a,a1,rfl,rfl,rfl,Q⟩:=hrel;subst Q;have M:=aEk b a;have O:=aG8 b a;by_cases a2:a < 290+c
  · have a6:(a:Int) < 290+(c:Int):=oM;have k:=yY b a;have e:=uV b a;obtain ⟨B,F⟩:=eqx (uX b a);obtain ⟨H,G⟩:=eqx (uW b a);rw [F] at k M⊢;rw [G] at e O⊢;clear F G;have W:=run_string_add_lists (P:=prog) wr B [10] oM dC;have X:=run_string_add_lists (P:=prog) wr B [108,101,110,10] oM dC;have Y:=run_string_add_lists (P:=prog) wr H [48,10] oM dC;obtain ⟨p,a3,a5⟩:∃p:Nat,(a:Int).tmod 3=(p:Int)/\a % 3=p:=⟨a % 3,by rw [Int.tmod_eq_emod_of_nonneg oM];omega,rfl⟩;by_cases j:b=true/\a % 3=0
    · have o:iH b a= []:=(by unfold iH;rw [zBx j]);rw [o] at k e;rw [zBx rfl,List.append_nil] at e;obtain ⟨L,m⟩:=j;subst L;have x:p=0:=oM;subst x;obtain ⟨r,s⟩:=hqq2 k e;clear k e o;go_wp2_with fail;go_roundw
      case rel=>exact ⟨a+1,by omega,by rw [r.out];rfl,by rw [s.out],by go_num,trivial⟩
      case measure=>simp [intOf];omega
    · have o:iH b a= [108,101,110]:=(by unfold iH;rw [zBw j]);rw [o] at k e;rw [zBw dC] at e;obtain ⟨r,s⟩:=hqq2 k e;have x:b=true->((p:Int)==0)=false:=fun i=>by rw [zCb];intro w;exact j ⟨i,by omega⟩
      clear k e o j;cases b with
      | false=>
        go_wp2_with fail;go_roundw
        case rel=>exact ⟨a+1,by omega,by rw [r.out];rfl,by rw [s.out],by go_num,trivial⟩
        case measure=>simp [intOf];omega
      | true=>
        have a4:=x rfl;go_wp2_with fail;go_roundw
        case rel=>exact ⟨a+1,by omega,by rw [r.out];rfl,by rw [s.out],by go_num,trivial⟩
        case measure=>simp [intOf];omega
  · have N:a=290+c:=oM;subst N;rcases zBe 300 (290+c) with E | E
    · have R:(300:Int) < 290+(c:Int):=oM;have d:=q.out;rw [zBx E] at d;have u:=lhd d;clear d q;go_wp2_with fail;refine A.out.mono ?_;rintro i y ⟨rfl,m⟩;have g:=lhd m;clear m;go_wp2_with fail;refine (u.out y g.out).mono ?_;rintro i T ⟨rfl,n⟩;have v:=lhd (g.out.trans (n.mono g.out.size));clear n;go_wp2_with fail;go_ret;exact ⟨by kernel_rfl,v.out⟩
    · have R:¬((300:Int) < 290+(c:Int)):=oM;have d:=q.out;rw [zBw oM] at d;have u:=lhd d;clear d q;go_wp2_with fail;refine A.out.mono ?_;rintro i y ⟨rfl,m⟩;have g:=lhd m;clear m;go_wp2_with fail;refine (u.out y g.out).mono ?_;rintro i T ⟨rfl,n⟩;have v:=lhd (g.out.trans (n.mono g.out.size));clear n;go_wp2_with fail;go_ret;exact ⟨by kernel_rfl,v.out⟩
end Go.Proofs.YtcfpmjbojoidoaaGreatDoor
