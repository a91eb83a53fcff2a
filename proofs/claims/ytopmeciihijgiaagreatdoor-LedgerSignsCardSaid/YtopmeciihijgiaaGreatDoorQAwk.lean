import Derived.Test.YtopmeciihijgiaaGreatDoorQMer
set_option linter.unusedVariables false
set_option linter.unusedSimpArgs false
namespace Go.Proofs.YtopmeciihijgiaaGreatDoor
set_option maxRecDepth 100000
set_option maxHeartbeats 1000000
open Go.RowKit
theorem eq_nats(l:List ByteArray)(A A':Option Addr)(len cap cap':Nat)(w:World)(hs:SlN w A len cap l)(hs':SlN w A' len cap' l):Calls Tryz.prog 19 #[.slice A len cap,.slice A' len cap'] w (Ret (.bool true) w):=by
 have hlen:=hs.1;have hlc:=hs.2.1;have hcap:=hs.2.2.1;have HS:=Hq hs;have HS':=Hq hs';have HLEN:=Hq hlen;have hne:((len:Int) != (len:Int))=false:=bne_false rfl;clear hs hs' hlen;go_enter Tryz.func19,Tryz.ntmps19;go_wp2;go_loopw [13] (fun i wr=>∃ k:Nat,k≤len∧i=.int .i64 k∧Below w.heap.size w wr) (fun i _=>len - (intOf i).toNat);case atStart=>exact⟨0,Nat.zero_le _,rfl,Below.refl _ _⟩
 case round =>
  obtain⟨k,hk,rfl,hB⟩:=hrel;by_cases hlt:k<len
  · obtain⟨b,o,rfl⟩:=HS.out.head (by omega);obtain⟨b',o',rfl⟩:=HS'.out.head (by omega);obtain⟨s,he⟩:∃ s,l[k]? =some s:=⟨_,List.getElem?_eq_getElem (by rw[HLEN.out];exact hlt)⟩;have c0:=(HS.out.kept hB nlr).get? k he;have c1:=(HS'.out.kept hB nlr).get? k he;have i1:(0:Int)≤(k:Int):=by omega
    have i2:(k:Int)<(len:Int):=by omega
    have HB:=Hq hB;clear hB he;go_wp2
    go_quiet (fail)
    go_wp2;go_roundw;case rel=>exact⟨k+1,by omega,by go_num,below_dN HB.out _⟩
    case measure=>simp[intOf];omega
  · obtain rfl:k=len:=by omega
    have HB:=Hq hB;clear hB;go_wp2;go_ret;exact⟨rfl,HB.out⟩
set_option maxRecDepth 100000
set_option maxHeartbeats 1000000
def smallE(e:En):Bool:=decide (e.handle.size≤16)&&decide (e.schema.size≤60)
def fewB(l:List En):Bool:=l.all smallE&&decide (l.length≤30)
theorem few_big{l:List En}{k:Nat}{e:En}(h:l[k]? =some e)(hb:smallE e=false):fewB l=false:=by
 unfold fewB;have : l.all smallE=false:=by
  rw[List.all_eq_false];exact⟨e,List.mem_of_getElem? h,by simp[hb]⟩
 rw[this];rfl
theorem few_long{l:List En}(h:30<l.length):fewB l=false:=by
 unfold fewB;rw[decide_eq_false (by omega),Bool.and_false]
theorem few_all{l:List En}(h:∀ k,k<l.length→∃ e,l[k]? =some e∧smallE e=true)(h2:l.length≤30):fewB l=true:=by
 unfold fewB;rw[decide_eq_true h2,Bool.and_true,List.all_eq_true];intro e he;obtain⟨k,hk⟩:=List.mem_iff_getElem?.1 he;have hl:=(List.getElem?_eq_some_iff.1 hk).1;obtain⟨e',h3,h4⟩:=h k hl;rw[hk]at h3;cases h3;exact h4
theorem few_of{l:List En}(h:fewB l=true):l.length≤30∧∀(k:Nat) (e:En),l[k]? =some e→e.handle.size≤16∧e.schema.size≤60:=by
 unfold fewB at h;simp only[Bool.and_eq_true,decide_eq_true_eq,List.all_eq_true]at h;refine⟨h.2,fun k e hk=>?_⟩;have:=h.1 e (List.mem_of_getElem? hk);simp only[smallE,Bool.and_eq_true,decide_eq_true_eq]at this;exact this
theorem few_entries(l:List En)(A:Option Addr)(len cap:Nat)(w:World)(hs:SlE w A len cap l):Calls Tryz.prog 14 #[.slice A len cap] w (RetQ (.bool (fewB l)) w):=by
 have hlen:=hs.1;have hlc:=hs.2.1;have hcap:=hs.2.2.1;have HS:=Hq hs;have HLEN:=Hq hlen;clear hs hlen;go_enter Tryz.func14,Tryz.ntmps14;go_wp2
 go_loop [3] (fun i=>∃ k:Nat,k≤len∧k≤40∧i=.int .i64 k∧∀ j,j<k→∃ e,l[j]? =some e∧smallE e=true) (fun i=>len - (intOf i).toNat)
 case atStart=>exact⟨0,Nat.zero_le _,by omega,rfl,fun j h=>by omega⟩
 case round =>
  obtain⟨k,hk,hk4,rfl,hall⟩:=hrel;have HALL:=Hq hall;clear hall;by_cases hlt:k<len
  · by_cases hlt4:k<40
    · obtain⟨b,o,rfl⟩:=HS.out.head (by omega);obtain⟨e,he⟩:∃ e,l[k]? =some e:=⟨_,List.getElem?_eq_getElem (by rw[HLEN.out];exact hlt)⟩;obtain⟨c0,c1,c2,c3⟩:=HS.out.get? k he;have HE:=Hq he;clear he;by_cases h1:16<e.handle.size
      · have HF:=Hq (few_big HE.out (by unfold smallE;rw[decide_eq_false (by omega),Bool.false_and]));have i1:decide ((16:Int)<(e.handle.size:Int))=true:=decide_eq_true (by omega);go_wp2;go_ret;exact⟨by rw[HF.out];rfl,rfl⟩
      · have i1:decide ((16:Int)<(e.handle.size:Int))=false:=decide_eq_false (by omega);by_cases h2:60<e.schema.size
        · have HF:=Hq (few_big HE.out (by unfold smallE;rw[decide_eq_false (p:=e.schema.size≤60) (by omega),Bool.and_false]));have i2:decide ((60:Int)<(e.schema.size:Int))=true:=decide_eq_true (by omega);go_wp2;go_ret;exact⟨by rw[HF.out];rfl,rfl⟩
        · have i2:decide ((60:Int)<(e.schema.size:Int))=false:=decide_eq_false (by omega);go_wp2;go_round;case rel =>
           refine⟨k+1,by omega,by omega,by go_num,fun j hj=>?_⟩;by_cases hjk:j<k
           · exact HALL.out j hjk
           · obtain rfl:j=k:=by omega
             exact⟨e,HE.out,by unfold smallE;rw[decide_eq_true (by omega),decide_eq_true (by omega)];rfl⟩
          case measure=>simp[intOf];omega
    · have HF:=Hq (show fewB l=decide ((len:Int)≤30)from by rw[few_long (l:=l) (by have:=HLEN.out;omega),decide_eq_false (by omega)]);go_wp2;go_ret;exact⟨by rw[HF.out];rfl,rfl⟩
  · obtain rfl:k=len:=by omega
    by_cases h30:k≤30
    · have HF:=Hq (show fewB l=decide ((k:Int)≤30)from by rw[few_all (l:=l) (fun j hj=>HALL.out j (by have:=HLEN.out;omega)) (by have:=HLEN.out;omega),decide_eq_true (by omega)]);have h31:k<40:=by omega
      go_wp2;go_ret;exact⟨by rw[HF.out];rfl,rfl⟩
    · have HF:=Hq (show fewB l=decide ((k:Int)≤30)from by rw[few_long (l:=l) (by have:=HLEN.out;omega),decide_eq_false (by omega)]);go_wp2;all_goals
       go_ret;exact⟨by rw[HF.out];rfl,rfl⟩
def exL:List En:=[⟨0,⟨#[3]⟩,⟨#[67,97,114,100]⟩,0⟩,⟨0,⟨#[5]⟩,⟨#[67,97,114,100]⟩,0⟩,⟨2,⟨#[]⟩,⟨#[]⟩,1⟩,⟨1,⟨#[3]⟩,⟨#[]⟩,1⟩,⟨2,⟨#[]⟩,⟨#[]⟩,2⟩]
def RetExA(w:World)(e:Ending)(w':World):Prop:=∃ A cap,e=.returned (.slice A 5 cap)∧SlE w' A 5 cap exL∧Below w.heap.size w w'
theorem example_any(w:World):Calls Tryz.prog 16 #[] w (RetExA w):=by
 go_enter Tryz.func16,Tryz.ntmps16;go_wp2;go_ret;refine⟨_,_,rfl,⟨rfl,by omega,by omega,w.heap.size,0,fun _=>rfl,fun k e hk=>?_⟩,(blr).alloc nlr _⟩;have hlt:=(List.getElem?_eq_some_iff.1 hk).1;have hlt':k<5:=hlt;unfold EnCells
 match k,hlt' with
 | 0,_=>cases hk;refine⟨?_,?_,?_,?_⟩<;>(rw[World.cell?_alloc_at (hn:=rfl)];rfl)
 | 1,_=>cases hk;refine⟨?_,?_,?_,?_⟩<;>(rw[World.cell?_alloc_at (hn:=rfl)];rfl)
 | 2,_=>cases hk;refine⟨?_,?_,?_,?_⟩<;>(rw[World.cell?_alloc_at (hn:=rfl)];rfl)
 | 3,_=>cases hk;refine⟨?_,?_,?_,?_⟩<;>(rw[World.cell?_alloc_at (hn:=rfl)];rfl)
 | 4,_=>cases hk;refine⟨?_,?_,?_,?_⟩<;>(rw[World.cell?_alloc_at (hn:=rfl)];rfl)
theorem ex_sz:SzE exL:=fun k e h=>by
 have:=List.mem_of_getElem? h;simp only[exL,List.mem_cons,List.mem_nil_iff,or_false]at this;rcases this with rfl | rfl | rfl | rfl | rfl<;>decide
theorem ex_step(k:Nat)(hk:k<5)(e:En)(h:exL[k]? =some e):followsS (exL.take k) e=0:=by
 match k,hk with
 | 0,_=>cases h;decide +kernel
 | 1,_=>cases h;decide +kernel
 | 2,_=>cases h;decide +kernel
 | 3,_=>cases h;decide +kernel
 | 4,_=>cases h;decide +kernel
theorem ex_m0:memS exL 0=([],0):=by decide +kernel
theorem ex_m1:memS exL 1=([⟨#[3]⟩,⟨#[5]⟩],0):=by decide +kernel
theorem ex_m2:memS exL 2=([⟨#[5]⟩],0):=by decide +kernel
theorem ex_a1:followsS exL ⟨1,⟨#[3]⟩,⟨#[]⟩,2⟩=20:=by decide +kernel
theorem ex_a2:followsS exL ⟨0,⟨#[3]⟩,⟨#[67,97,114,100]⟩,2⟩=8:=by decide +kernel
theorem ex_a3:followsS exL ⟨1,⟨#[7]⟩,⟨#[]⟩,2⟩=9:=by decide +kernel
theorem ex_a4:followsS exL ⟨1,⟨#[5]⟩,⟨#[]⟩,1⟩=21:=by decide +kernel
end Go.Proofs.YtopmeciihijgiaaGreatDoor
