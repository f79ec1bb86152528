/- Lemmas of the walk. Conditions: each its own. -/
import Derived.Test.YtcfpmjbojoidoaaGreatDoorPd23
import Derived.Test.YtcfpmjbojoidoaaGreatDoorProg
import Derived.Test.YtcfpmjbojoidoaaGreatDoorSht
import Derived.Test.YtcfpmjbojoidoaaGreatDoorShd
import Derived.Test.YtcfpmjbojoidoaaGreatDoorShl
import Derived.Test.YtcfpmjbojoidoaaGreatDoorShi
import Derived.Test.YtcfpmjbojoidoaaGreatDoorShs
set_option linter.all false
set_option maxRecDepth 100000
set_option maxHeartbeats 4000000
open Go.Proofs.Tryz
namespace Go.Proofs.YtcfpmjbojoidoaaGreatDoor
open Go.RowKit
def wdL:List (List UInt8):= [[105,110,115,101,114,116], [105,110,115,101,114,116,32,48], [105,110,115,101,114,116,32,120,32,97], [105,110,115,101,114,116,32,45,49,32,97], [115,101,116,32,48], [100,101,108,101,116,101,32,48], [100,101,108,101,116,101,32,48,32,120], [100,101,108,101,116,101,32,48,32,49,32,50], [116,97,107,101,32,49], [116,97,107,101,32,49,32,49,50,51,52,53,54,55], [99,111,117,110,116], [108,111,99,97,116,101], [108,101,110,32,49], [32,108,101,110], [76,97,115,116], [108,97,115,116,32,120], [115,97,118,101,32,49], [112,97,105,114,115,32,50], [110,111,100,101,115,32,120], [114,101,108,111,97,100,32,110,111,119], [105,110,115,101,114,116,32,49,50,51,52,53,54,55,32,97], [116,97,107,101,32,32,49,32,49]]
def yJ:List UInt8:= [105,110,115,101,114,116,32,48,32,97,98,10]
def rH:List UInt8:= [10,108,101,110]
def aIL:List UInt8:= [48,10,101,114,114,111,114,10,50,10]
def aIF:∀b∈wdL,(∀ρ,rM ρ 9 (yJ++b++rH)=aIL)/\∀c∈bK (yJ++b++rH),oH c:=by
 intro b a;unfold wdL at a;simp only [List.mem_cons,List.not_mem_nil,or_false] at a;rcases a with rfl | rfl | rfl | rfl | rfl | rfl | rfl | rfl | rfl | rfl | rfl | rfl | rfl | rfl | rfl | rfl | rfl | rfl | rfl | rfl | rfl | rfl
 all_goals
  refine ⟨fun ρ=>by kernel_rfl,?_⟩;unfold oH;decide
def aF0:∀a∈wdL,(yJ++a++rH).length<=100000/\a.length<=1000:=dC
def wZ (j:Int) (b:World) (d:TabD b):Calls prog 4 #[.int .i64 j] b fun l B=>l=.returned (.bool true)/\Below b.heap.size b B:=by
 have r:=d.tab.pos;have s:=d.low.2;have t:=d.low.1;have q:=fun w1 (m:Below b.heap.size b w1)=>wI w1 (d.below m r s t);obtain ⟨c,F,A⟩:∃c:Nat,(IntKind.u64.wrap j).tmod 22=(c:Int)/\c < 22:=by
  have p:0<=IntKind.u64.wrap j:=by rw [IntKind.wrap_u64];omega
  refine ⟨((IntKind.u64.wrap j).tmod 22).toNat,?_,?_⟩;rw [Int.tmod_eq_emod_of_nonneg p];omega;rw [Int.tmod_eq_emod_of_nonneg p];omega
 obtain ⟨a,e⟩:∃a,wdL[c]?=some a:=⟨_,zAa (by show c < 22;exact A)⟩;have f:=zAd e;have G:=(aF0 a f).2;have i:=fun w1 (m:Below b.heap.size b w1)=>tV 9 3 (yJ++a++rH) w1 oM oM oM (aF0 a f).1 (aIF a f).2 (d.below m r s t);have o:rM rhoS ((9:Nat):Int) (yJ++a++rH)= [48,10,101,114,114,111,114,10,50,10]:=(aIF a f).1 rhoS;rw [o] at i;unfold yJ rH at i;obtain ⟨x,y⟩:=hqq2 q i;clear q i d o f;go_enter func4,ntmps4;go_wp2_with fail;refine (x.out _ (bR.alloc nL _)).mono ?_;rintro l g ⟨rfl,n⟩;have v:Below b.heap.size b g:=(bR.alloc nL _).trans (n.mono (by simp));have w:∀c a,wdL[c]?=some a->g.cell? ⟨b.heap.size,c,none⟩=some (eJ a):=fun c a e=>(n.cell (by simp)).trans (((Bk.new b 9 (wdL.map eJ).toArray).cell c).trans (by simp [e]));have C:=w c a e;have D:=run_string_add_lists (P:=prog) g [105,110,115,101,114,116,32,48,32,97,98,10] a dC oM;have E:=run_string_add_lists (P:=prog) g ([105,110,115,101,114,116,32,48,32,97,98,10]++a) [10,108,101,110] (by simp;omega) dC;have k:=lhd v;clear v w n e;go_wp2_with fail;refine (y.out g k.out).mono ?_;rintro l H ⟨rfl,u⟩;have z:=lhd (k.out.trans (u.mono k.out.size));clear u;go_wp2_with fail;go_ret;exact ⟨by kernel_rfl,z.out⟩
end Go.Proofs.YtcfpmjbojoidoaaGreatDoor
