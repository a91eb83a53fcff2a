import Derived.Test.YtamhonjkgkmdbaaGreatDoorQKyG
import Derived.Great.Walk
import Derived.Test.YtamhonjkgkmdbaaGreatDoorQBld
set_option linter.unusedVariables false
set_option linter.unusedSimpArgs false
namespace Go.Proofs.YtamhonjkgkmdbaaGreatDoor
open Go.RowKit
def lastI(l:List Ver)(name:ByteArray):Option Nat:=bestI (nameP name) l l.length
set_option maxRecDepth 100000
set_option maxHeartbeats 4000000
open Go.Maps Go.WideMaps
theorem sinj{a b:ByteArray}(h:a.toList=b.toList):a=b:=by
 rw[ByteArray.toList_eq,ByteArray.toList_eq]at h;exact ByteArray.ext (Array.toList_inj.1 h)
theorem nameP_eq{s:ByteArray}{v:Ver}:nameP s v=decide (v.name=s):=by
 unfold nameP;by_cases h:v.name=s
 · rw[h];simp
 · rw[decide_eq_false h];exact beq_eq_false_iff_ne.2 fun e=>h (sinj e)
theorem wfI{j:Nat}(h:j≤4096):(Lit.int .i64 (j:Int)).wf=true:=by
 have h1:IntKind.i64.min = -9223372036854775808:=rfl;have h2:IntKind.i64.max=9223372036854775807:=rfl;simp[Lit.wf,h1,h2];omega
def SzV(l:List Ver):Prop:=∀(k:Nat) (v:Ver),l[k]? =some v→v.name.size≤maxLen
theorem box_row(wr:World)(z cs:Array Value)(T:TypeId):BxC ((wr.alloc (.cells z T)).setRow wr.heap.size cs) wr.heap.size cs T:=
 setRow_heap _ _ _ cs _ _ (BxC.new wr z T)
theorem box_below(wr:World)(z cs:Array Value)(T:TypeId):Below wr.heap.size wr ((wr.alloc (.cells z T)).setRow wr.heap.size cs):=
 below_setRow ((Below.refl _ _).alloc (Nat.le_refl _) _) (Nat.le_refl _) _
theorem best_in{l:List Ver}{j:Nat}{v:Ver}(hv:l[j]? =some v)(h:bestI (nameP v.name) l j=none∨∃ a u,bestI (nameP v.name) l j=some a∧l[a]? =some u∧u.num<v.num)(s:ByteArray):(if v.name=s then some j else bestI (nameP s) l j)=bestI (nameP s) l (j+1):=by
 by_cases e:v.name=s
 · subst e;rw[if_pos rfl];have hp:nameP v.name v=true:=by rw[nameP_eq];simp
   rcases h with h | ⟨a,u,h,hu,hn⟩
   · rw[bestI_first h hv hp]
   · rw[bestI_more h hu hv hp hn]
 · rw[if_neg e,bestI_skip hv (by rw[nameP_eq];exact decide_eq_false e)]
theorem best_out{l:List Ver}{j a:Nat}{u v:Ver}(hv:l[j]? =some v)(h:bestI (nameP v.name) l j=some a)(hu:l[a]? =some u)(hn:¬ u.num<v.num)(s:ByteArray):bestI (nameP s) l j=bestI (nameP s) l (j+1):=by
 by_cases e:v.name=s
 · subst e;have hp:nameP v.name v=true:=by rw[nameP_eq];simp
   rw[bestI_less h hu hv hp hn,h]
 · rw[bestI_skip hv (by rw[nameP_eq];exact decide_eq_false e)]
def RetMv(l:List Ver)(w:World)(e:Ending)(w':World):Prop:=∃ b,e=.returned (.map (some b))∧w.heap.size≤b∧MapI w' b l.length (lastI l)∧Below w.heap.size w w'
theorem ky_last(l:List Ver)(A:Option Addr)(len cap:Nat)(w:World)(hs:SlV w A len cap l)(hlen:len≤4096)(hz:SzV l):Calls Tryz.prog 23 #[.slice A len cap] w (RetMv l w):=by
 have HS:=Hq hs;have HLEN:=Hq hs.1;have HZ:=Hq hz;have hcap:=hs.2.1;have hcap2:=hs.2.2.1;have hmm:=@run_makeMap Tryz.prog;clear hs hz;go_enter Tryz.func23,Tryz.ntmps23;go_wp2;go_loopw [11] (fun i wr=>∃(j:Nat),j≤len∧i=.int .i64 j∧MapI wr w.heap.size j (fun s=>bestI (nameP s) l j)∧Below w.heap.size w wr) (fun i _=>len - (intOf i).toNat);case atStart=>exact⟨0,Nat.zero_le _,rfl,MapI.made w,(Below.refl _ _).alloc (Nat.le_refl _) _⟩
 case round =>
  obtain⟨j,hj,rfl,hmi,hbb⟩:=hrel;have HB:=Hq hbb;have HSR:=Hq (HS.out.kept hbb (Nat.le_refl _));have HMI:=Hq hmi;clear hbb hmi hmm;by_cases hlt:j<len
  · obtain⟨b,o,rfl⟩:=HS.out.head (by omega);obtain⟨v,he⟩:∃ v,l[j]? =some v:=⟨_,List.getElem?_eq_getElem (by rw[HLEN.out];exact hlt)⟩;obtain⟨A1,n1,c1,hvc,_⟩:=HSR.out.get? j he;have HSN:=Hq (HZ.out j v he);have HE:=Hq he;have HRA:=Hq (show wr.rangeAt b (o+j * 18) (v.vals (.slice A1 n1 c1))from hvc);have HSZ:=Hq (show (Tryz.prog.info? 35).map (·.size)=some (v.vals (.slice A1 n1 c1)).length from by kernel_rfl);have HON:=Hq (v.arr_one (A:=A1) (n:=n1) (c:=c1));obtain⟨cs,hcs⟩:∃ cs,v.arr (.slice A1 n1 c1)=cs:=⟨_,rfl⟩;have HCS:=Hq (show cs.size=18 from by rw[←hcs];rfl);have hc0:cs[0]? =some (.string v.name):=by rw[←hcs];rfl
    have hc1:cs[1]? =some (.int .i64 v.num):=by rw[←hcs];rfl
    have hva:(v.vals (.slice A1 n1 c1)).toArray=cs:=hcs;rw[hcs]at HON;clear hvc he hcs;go_upto_region 4 with fail
    refine wp_region_lit ?_;iterate 6 go_step
    refine wpList_load_mid rfl 35 _ rfl b (o+j * 18) rfl _ _ HRA.out Tryz.underlying35 rfl HSZ.out ?_;rw[hva];clear hva;refine Great.wpList_allocTo rfl _ rfl (.pointer (some ⟨wr.heap.size,0,none⟩)) (.cells (ver0.arr (.slice none 0 0)) 35) (by kernel_rfl) ?_;iterate 3 go_step
    refine wpList_store_rowTo rfl 35 _ _ rfl rfl wr.heap.size cs rfl rfl 35 (ver0.arr (.slice none 0 0)) (BxC.new wr _ _) (by rw[HCS.out];kernel_rfl) (by rw[HCS.out];rfl) HON.out ?_;have HX:=Hq (box_row wr (ver0.arr (.slice none 0 0)) cs 35);have HW:=Hq (box_below wr (ver0.arr (.slice none 0 0)) cs 35);obtain⟨w2,hw2⟩:∃ w2,(wr.alloc (.cells (ver0.arr (.slice none 0 0)) 35)).setRow wr.heap.size cs=w2:=⟨_,rfl⟩;rw[hw2]at HX HW⊢;clear hw2;obtain⟨D,hown,hf⟩:=HMI.out.kept HW.out (Nat.le_refl _);have HOWN2:=Hq hown;have HF:=Hq hf;have x0:=HX.out.cell 0;have x1:w2.drew.cell? ⟨wr.heap.size,1,none⟩=cs[1]?:=HX.out.cell 1;have x2:w2.drew.cell? ⟨wr.heap.size,0,none⟩=cs[0]?:=HX.out.cell 0;rw[hc0]at x0 x2;rw[hc1]at x1;clear hown hf hc0 hc1
    cases hi:bestI (nameP v.name) l j with
    | none =>
     have HAS:=Hq (show Maps.has D (.string v.name.data.toList)=false from by rw[(HF.out v.name).1];show (bestI (nameP v.name) l j).isSome=_;rw[hi];rfl);have HI:=Hq hi;clear hi;go_upto_region 5 with fail
     refine wp_region_lit ?_;iterate 9 go_step
     refine wpList_lookup_own_ok_int _ rfl _ _ 70 rfl 9 3 .i64 lawS Tryz.underlying70 Tryz.underlying3 (zeroI _) w.heap.size j D rfl HOWN2.out (.string v.name) (.string v.name.data.toList) rfl (keyS HSN.out) ?_;intro c hat hwc;rw[HAS.out];go_wp2;go_region;go_upto_region 7 with fail
     refine wp_region_lit ?_;iterate 12 go_step
     refine wpList_mapUpdate_own _ rfl _ _ _ 70 rfl 9 3 lawS Tryz.underlying70 _ w.heap.size j D rfl HOWN2.out.drew (by unfold maxLen;omega) (.string v.name) (.int .i64 (j:Int)) (.string v.name.data.toList) rfl rfl (keyS HSN.out) (.lit (.int .i64 (j:Int))) [] (plainElem_int Tryz.underlying3 (wfI (by omega))) ?_;intro w3 hown3 hgrow3;have HM3:=Hq ((mapI_put HF.out HOWN2.out.isMap hown3).congr (best_in HE.out (.inl HI.out)));have HB3:=Hq ((HB.out.trans (HW.out.mono HB.out.size)).drew.grown hgrow3 (Nat.le_trans HB.out.size HW.out.size) (fun k hk=>by simp only[Option.some.injEq]at hk;omega));clear hown3 hgrow3;go_wp2;go_roundw;case rel=>exact⟨j+1,by omega,by go_num,HM3.out,HB3.out⟩
     case measure=>simp[intOf];omega
    | some a =>
     have HAS:=Hq (show Maps.has D (.string v.name.data.toList)=true from by rw[(HF.out v.name).1];show (bestI (nameP v.name) l j).isSome=_;rw[hi];rfl);have HAT:=Hq ((HF.out v.name).2 a hi);obtain⟨ha,u,hu,_⟩:=bestI_lt hi;have hal:a<len:=by omega
     obtain⟨A2,n2,c2,hvc2,_⟩:=(HSR.out.kept HW.out (Nat.le_refl _)).get? a hu;have g1:w2.drew.cell? ⟨b,o+a * 18+1,none⟩=some (.int .i64 u.num):=hvc2.open.2.1;have HI:=Hq hi;have HU:=Hq hu;clear hi hu hvc2;go_upto_region 5 with fail
     refine wp_region_lit ?_;iterate 9 go_step
     refine wpList_lookup_own_ok_int _ rfl _ _ 70 rfl 9 3 .i64 lawS Tryz.underlying70 Tryz.underlying3 (zeroI _) w.heap.size j D rfl HOWN2.out (.string v.name) (.string v.name.data.toList) rfl (keyS HSN.out) ?_;intro c hat hwc;rw[HAS.out];obtain rfl:c=(a:Int):=by
      rw[HAT.out]at hat;injection hat with h1
      injection h1 with _ h2
      exact h2.symm
     clear hat hwc;by_cases hn:u.num<v.num
     · have hn':decide (u.num<v.num)=true:=decide_eq_true hn;have HNN:=Hq hn;clear hn;go_wp2;go_region;go_upto_region 7 with fail
       refine wp_region_lit ?_;iterate 12 go_step
       refine wpList_mapUpdate_own _ rfl _ _ _ 70 rfl 9 3 lawS Tryz.underlying70 _ w.heap.size j D rfl HOWN2.out.drew (by unfold maxLen;omega) (.string v.name) (.int .i64 (j:Int)) (.string v.name.data.toList) rfl rfl (keyS HSN.out) (.lit (.int .i64 (j:Int))) [] (plainElem_int Tryz.underlying3 (wfI (by omega))) ?_;intro w3 hown3 hgrow3;have HM3:=Hq ((mapI_put HF.out HOWN2.out.isMap hown3).congr (best_in HE.out (.inr ⟨a,u,HI.out,HU.out,HNN.out⟩)));have HB3:=Hq ((HB.out.trans (HW.out.mono HB.out.size)).drew.grown hgrow3 (Nat.le_trans HB.out.size HW.out.size) (fun k hk=>by simp only[Option.some.injEq]at hk;omega));clear hown3 hgrow3;go_wp2;go_roundw;case rel=>exact⟨j+1,by omega,by go_num,HM3.out,HB3.out⟩
       case measure=>simp[intOf];omega
     · have hn':decide (u.num<v.num)=false:=decide_eq_false hn;have HNN:=Hq hn;clear hn;have HM3:=Hq ((((HMI.out.kept HW.out (Nat.le_refl _)).kept (Below.refl _ _).drew (Nat.le_refl _)).mono (Nat.le_succ j)).congr (best_out HE.out HI.out HU.out HNN.out));go_wp2;go_region;go_wp2;go_roundw;case rel=>exact⟨j+1,by omega,by go_num,HM3.out,(HB.out.trans (HW.out.mono HB.out.size)).drew⟩
       case measure=>simp[intOf];omega
  · obtain rfl:j=len:=by omega
    have HM:=Hq (show MapI wr w.heap.size l.length (lastI l)from by
     have:=HMI.out;unfold lastI;rw[HLEN.out]
     exact this)
    clear hlt hj;go_wp2;go_ret;exact⟨_,rfl,Nat.le_refl _,HM.out,HB.out⟩
def curP(name:ByteArray)(e:Int)(x:Ver):Bool:=(x.name.toList==name.toList)&&vvalid x e
def RetCv(o:Option Ver)(w:World)(x:Ending)(w':World):Prop:=(∃ v,o=some v∧RetV v 0 w x w')∨(o=none∧RetV ver0 22 w x w')
inductive It where
 | mk (kind:Int) (nat text:ByteArray) (list:List It)
def It.kind:It→Int | .mk k _ _ _=>k
def It.nat:It→ByteArray | .mk _ n _ _=>n
def It.text:It→ByteArray | .mk _ _ t _=>t
def It.list:It→List It | .mk _ _ _ l=>l
def lenF:Nat→Nat→List UInt8
 | 0,_=>[]
 | k+1,n=>if n<128 then [UInt8.ofNat n]else UInt8.ofNat (n%128+128)::lenF k (n / 128)
def lenB(n:Nat):List UInt8:=lenF 10 n
mutual
def It.valid:It→Bool
 | .mk k n t l=>if k=0 then nvalid n&&(t.size==0&&l.isEmpty)else if k=1 then n.size==0&&l.isEmpty else if k=2 then Its.valid l&&(n.size==0&&t.size==0)else false
def Its.valid:List It→Bool
 | []=>true
 | x::l=>x.valid&&Its.valid l
end
mutual
def It.depth:It→Nat
 | .mk k _ _ l=>if k=2 then Its.depth l+1 else 0
def Its.depth:List It→Nat
 | []=>0
 | x::l=>max x.depth (Its.depth l)
end
mutual
def It.bytes:It→List UInt8
 | .mk k n t l=>UInt8.ofNat (k%256).toNat::(lenB (n.data.toList++(t.data.toList++Its.bytes l)).length++(n.data.toList++(t.data.toList++Its.bytes l)))
def Its.bytes:List It→List UInt8
 | []=>[]
 | x::l=>x.bytes++Its.bytes l
end
mutual
def It.weight:It→Nat
 | .mk _ n t l=>n.size+t.size+Its.weight l+11
def Its.weight:List It→Nat
 | []=>0
 | x::l=>x.weight+Its.weight l
end
mutual
def It.nodes:It→Nat
 | .mk _ _ _ l=>Its.nodes l+1
def Its.nodes:List It→Nat
 | []=>0
 | x::l=>x.nodes+Its.nodes l
end
theorem Its.valid_append(l m:List It):Its.valid (l++m)=(Its.valid l&&Its.valid m):=by
 induction l with
 | nil=>simp[Its.valid]
 | cons x l ih=>simp[Its.valid,ih,Bool.and_assoc]
theorem Its.depth_append(l m:List It):Its.depth (l++m)=max (Its.depth l) (Its.depth m):=by
 induction l with
 | nil=>simp[Its.depth]
 | cons x l ih=>simp[Its.depth,ih,Nat.max_assoc]
theorem Its.bytes_append(l m:List It):Its.bytes (l++m)=Its.bytes l++Its.bytes m:=by
 induction l with
 | nil=>simp[Its.bytes]
 | cons x l ih=>simp[Its.bytes,ih]
theorem Its.weight_append(l m:List It):Its.weight (l++m)=Its.weight l+Its.weight m:=by
 induction l with
 | nil=>simp[Its.weight]
 | cons x l ih=>simp[Its.weight,ih,Nat.add_assoc]
theorem lenF_length(k n:Nat):(lenF k n).length≤k:=by
 induction k generalizing n with
 | zero=>simp[lenF]
 | succ k ih =>
  unfold lenF;split
  · simp
  · have:=ih (n / 128);simp only[List.length_cons];omega
mutual
theorem It.bytes_le:∀ x:It,x.bytes.length≤x.weight
 | .mk k n t l=>by
  have h:=Its.bytes_le l;have h1:=lenF_length 10 (n.data.toList++(t.data.toList++Its.bytes l)).length;simp only[It.bytes,It.weight,List.length_cons,List.length_append,data_len,lenB]at *;omega
theorem Its.bytes_le:∀ l:List It,(Its.bytes l).length≤Its.weight l
 | []=>by simp[Its.bytes,Its.weight]
 | x::l=>by
  have h1:=It.bytes_le x;have h2:=Its.bytes_le l;simp only[Its.bytes,Its.weight,List.length_append];omega
end
mutual
theorem It.depth_le:∀ x:It,x.depth≤x.nodes
 | .mk k n t l=>by
  have h:=Its.depth_le l;simp only[It.depth,It.nodes];split<;>omega
theorem Its.depth_le:∀ l:List It,Its.depth l≤Its.nodes l
 | []=>by simp[Its.depth,Its.nodes]
 | x::l=>by
  have h1:=It.depth_le x;have h2:=Its.depth_le l;simp only[Its.depth,Its.nodes];omega
end
mutual
theorem It.nodes_le:∀ x:It,x.nodes≤x.weight
 | .mk k n t l=>by
  have h:=Its.nodes_le l;simp only[It.weight,It.nodes];omega
theorem Its.nodes_le:∀ l:List It,Its.nodes l≤Its.weight l
 | []=>by simp[Its.nodes,Its.weight]
 | x::l=>by
  have h1:=It.nodes_le x;have h2:=Its.nodes_le l;simp only[Its.weight,Its.nodes];omega
end
theorem It.nodes_pos(x:It):1≤x.nodes:=by cases x;simp[It.nodes]
theorem Its.length_le_nodes(l:List It):l.length≤Its.nodes l:=by
 induction l with
 | nil=>simp
 | cons x l ih=>have:=x.nodes_pos;simp only[Its.nodes,List.length_cons];omega
theorem Its.mem_nodes{l:List It}{x:It}(h:x∈l):x.nodes≤Its.nodes l:=by
 induction l with
 | nil=>cases h
 | cons y l ih =>
  simp only[Its.nodes];rcases List.mem_cons.1 h with rfl | h
  · omega
  · have:=ih h;omega
theorem Its.mem_weight{l:List It}{x:It}(h:x∈l):x.weight≤Its.weight l:=by
 induction l with
 | nil=>cases h
 | cons y l ih =>
  simp only[Its.weight];rcases List.mem_cons.1 h with rfl | h
  · omega
  · have:=ih h;omega
theorem It.length_lt(x:It):x.list.length+1≤x.nodes:=by
 cases x with
 | mk k n t l=>have:=Its.length_le_nodes l;simp only[It.list,It.nodes];omega
theorem It.child_nodes{x y:It}{k:Nat}(h:x.list[k]? =some y):y.nodes+1≤x.nodes:=by
 cases x with
 | mk k n t l=>have:=Its.mem_nodes (List.mem_of_getElem? h);simp only[It.nodes];simp only[It.list]at this;omega
mutual
def CellsAt(w:World)(ok:Nat→Prop):It→Nat→Nat→Prop
 | .mk k n t l,b,o=>w.cell? ⟨b,o,none⟩=some (.int .i64 k)∧w.cell? ⟨b,o+1,none⟩=some (.string n)∧w.cell? ⟨b,o+2,none⟩=some (.string t) ∧
  ∃ A len cap,w.cell? ⟨b,o+3,none⟩=some (.slice A len cap)∧l.length=len∧len≤cap∧cap≤9223372036854775807∧∃ b' o',(0<len→A=some ⟨b',o',none⟩∧ok b')∧RowAt w ok l b' o'
def RowAt(w:World)(ok:Nat→Prop):List It→Nat→Nat→Prop
 | [],_,_=>True
 | x::l,b,o=>CellsAt w ok x b o∧RowAt w ok l b (o+4)
end
def SlAt(w:World)(ok:Nat→Prop)(A:Option Addr)(len cap:Nat)(l:List It):Prop:=
 l.length=len∧len≤cap∧cap≤9223372036854775807∧∃ b o,(0<len→A=some ⟨b,o,none⟩∧ok b)∧RowAt w ok l b o
def ItAt(w:World)(ok:Nat→Prop)(v:Value)(x:It):Prop:=∃ A len cap,v=.agg #[.int .i64 x.kind,.string x.nat,.string x.text,.slice A len cap]∧SlAt w ok A len cap x.list
def Agree(ok:Nat→Prop)(w w':World):Prop:=∀ k,ok k→k<w.heap.size→w'.heap[k]? =w.heap[k]?
theorem Agree.of_below{B:Nat}{ok:Nat→Prop}{w w':World}(hb:Below B w w')(hB:w.heap.size≤B):Agree ok w w':=fun k _ h=>hb.block k (Nat.lt_of_lt_of_le h hB)
theorem Agree.trans{ok:Nat→Prop}{a b c:World}(h:Agree ok a b)(h':Agree ok b c)(hs:a.heap.size≤b.heap.size):Agree ok a c:=fun k h1 h2=>(h' k h1 (by omega)).trans (h k h1 h2)
theorem Agree.cell{ok:Nat→Prop}{w w':World}(h:Agree ok w w'){a:Addr}{v:Value}(hl:ok a.block)(hc:w.cell? a=some v):w'.cell? a=some v:=by
 rw[World.cell?_of_block (h a.block hl (World.block_lt_of_cell? w a hc))];exact hc
mutual
theorem CellsAt.keep{ok:Nat→Prop}{w w':World}(hb:Agree ok w w'):∀(x:It) (b o:Nat),ok b→CellsAt w ok x b o→CellsAt w' ok x b o
 | .mk k n t l,b,o,hl,⟨h0,h1,h2,A,len,cap,h3,h4,h5,h6,b',o',h7,h8⟩ =>
  ⟨hb.cell hl h0,hb.cell hl h1,hb.cell hl h2,A,len,cap,hb.cell hl h3,h4,h5,h6,b',o',h7,RowAt.keep hb l b' o' (fun h=>(h7 (by rw[←h4];exact List.length_pos_iff.2 h)).2) h8⟩
theorem RowAt.keep{ok:Nat→Prop}{w w':World}(hb:Agree ok w w'):∀(l:List It) (b o:Nat),(l≠[]→ok b)→RowAt w ok l b o→RowAt w' ok l b o
 | [],_,_,_,_=>trivial
 | x::l,b,o,hl,⟨h,h'⟩=>⟨CellsAt.keep hb x b o (hl (by simp)) h,RowAt.keep hb l b (o+4) (fun _=>hl (by simp)) h'⟩
end
mutual
theorem CellsAt.low{ok ok':Nat→Prop}{w:World}(hl:∀ b,ok b→ok' b):∀(x:It) (b o:Nat),CellsAt w ok x b o→CellsAt w ok' x b o
 | .mk k n t l,b,o,⟨h0,h1,h2,A,len,cap,h3,h4,h5,h6,b',o',h7,h8⟩ =>
  ⟨h0,h1,h2,A,len,cap,h3,h4,h5,h6,b',o',fun h=>⟨(h7 h).1,hl _ (h7 h).2⟩,RowAt.low hl l b' o' h8⟩
theorem RowAt.low{ok ok':Nat→Prop}{w:World}(hl:∀ b,ok b→ok' b):∀(l:List It) (b o:Nat),RowAt w ok l b o→RowAt w ok' l b o
 | [],_,_,_=>trivial
 | x::l,b,o,⟨h,h'⟩=>⟨CellsAt.low hl x b o h,RowAt.low hl l b (o+4) h'⟩
end
theorem SlAt.keep{ok:Nat→Prop}{w w':World}{A:Option Addr}{len cap:Nat}{l:List It}(h:SlAt w ok A len cap l)(hb:Agree ok w w'):SlAt w' ok A len cap l:=
 let ⟨h1,h2,h3,b,o,h4,h5⟩:=h
 ⟨h1,h2,h3,b,o,h4,RowAt.keep hb l b o (fun h=>(h4 (by rw[←h1];exact List.length_pos_iff.2 h)).2) h5⟩
theorem SlAt.low{ok ok':Nat→Prop}{w:World}{A:Option Addr}{len cap:Nat}{l:List It}(h:SlAt w ok A len cap l)(hl:∀ b,ok b→ok' b):SlAt w ok' A len cap l:=
 let ⟨h1,h2,h3,b,o,h4,h5⟩:=h
 ⟨h1,h2,h3,b,o,fun h=>⟨(h4 h).1,hl _ (h4 h).2⟩,RowAt.low hl l b o h5⟩
theorem SlAt.below{B:Nat}{ok:Nat→Prop}{w w':World}{A:Option Addr}{len cap:Nat}{l:List It}(h:SlAt w ok A len cap l)(hb:Below B w w')(hB:w.heap.size≤B):SlAt w' ok A len cap l:=h.keep (.of_below hb hB)
theorem ItAt.keep{ok:Nat→Prop}{w w':World}{v:Value}{x:It}(h:ItAt w ok v x)(hb:Agree ok w w'):ItAt w' ok v x:=
 let ⟨A,len,cap,h1,h2⟩:=h
 ⟨A,len,cap,h1,h2.keep hb⟩
theorem ItAt.low{ok ok':Nat→Prop}{w:World}{v:Value}{x:It}(h:ItAt w ok v x)(hl:∀ b,ok b→ok' b):ItAt w ok' v x:=
 let ⟨A,len,cap,h1,h2⟩:=h
 ⟨A,len,cap,h1,h2.low hl⟩
theorem ItAt.below{B:Nat}{ok:Nat→Prop}{w w':World}{v:Value}{x:It}(h:ItAt w ok v x)(hb:Below B w w')(hB:w.heap.size≤B):ItAt w' ok v x:=h.keep (.of_below hb hB)
theorem RowAt.get{w:World}{ok:Nat→Prop}:∀ {l:List It} {b o i:Nat} (h:RowAt w ok l b o) (hi:i<l.length),CellsAt w ok l[i] b (o+4 * i)
 | x::l,b,o,0,h,_=>h.1
 | x::l,b,o,i+1,h,hi=>by
  have:=RowAt.get (i:=i) h.2 (by simpa using hi);rw[show o+4 * (i+1)=o+4+4 * i from by omega];exact this
theorem CellsAt.open{w:World}{ok:Nat→Prop}{x:It}{b o:Nat}(h:CellsAt w ok x b o) :
 ∃ A len cap,w.cell? ⟨b,o,none⟩=some (.int .i64 x.kind)∧w.cell? ⟨b,o+1,none⟩=some (.string x.nat)∧w.cell? ⟨b,o+2,none⟩=some (.string x.text)∧w.cell? ⟨b,o+3,none⟩=some (.slice A len cap)∧SlAt w ok A len cap x.list:=by
 cases x with
 | mk k n t l =>
  obtain⟨h0,h1,h2,A,len,cap,h3,h4,h5,h6,b',o',h7,h8⟩:=h;exact⟨A,len,cap,h0,h1,h2,h3,h4,h5,h6,b',o',h7,h8⟩
theorem CellsAt.mk'{w:World}{ok:Nat→Prop}{x:It}{b o:Nat}{A:Option Addr}{len cap:Nat}(h0:w.cell? ⟨b,o,none⟩=some (.int .i64 x.kind))(h1:w.cell? ⟨b,o+1,none⟩=some (.string x.nat))
 (h2:w.cell? ⟨b,o+2,none⟩=some (.string x.text)) (h3:w.cell? ⟨b,o+3,none⟩=some (.slice A len cap)) (h4:SlAt w ok A len cap x.list):CellsAt w ok x b o:=by
 cases x with
 | mk k n t l =>
  obtain⟨h4,h5,h6,b',o',h7,h8⟩:=h4;exact⟨h0,h1,h2,A,len,cap,h3,h4,h5,h6,b',o',h7,h8⟩
theorem SlAt.get?{w:World}{ok:Nat→Prop}{b o len cap:Nat}{l:List It}{y:It}(h:SlAt w ok (some ⟨b,o,none⟩) len cap l)(i:Nat)(hi:l[i]? =some y):CellsAt w ok y b (o+i * 4):=by
 obtain⟨hj,rfl⟩:=List.getElem?_eq_some_iff.1 hi;obtain⟨h1,h2,h3,b',o',h4,h5⟩:=h;have:=(h4 (by omega)).1;simp only[Option.some.injEq,Addr.mk.injEq,and_true]at this;obtain⟨rfl,rfl⟩:=this;rw[Nat.mul_comm];exact h5.get hj
theorem SlAt.head{w:World}{ok:Nat→Prop}{A:Option Addr}{len cap:Nat}{l:List It}(h:SlAt w ok A len cap l)(h0:0<len):∃ b o,A=some ⟨b,o,none⟩:=by
 obtain⟨_,_,_,b,o,h4,_⟩:=h;exact⟨b,o,(h4 h0).1⟩
mutual
theorem CellsAt.bound{ok:Nat→Prop}{w:World}:∀(x:It) (b o:Nat),CellsAt w ok x b o→CellsAt w (fun c=>ok c∧c<w.heap.size) x b o
 | .mk k n t l,b,o,⟨h0,h1,h2,A,len,cap,h3,h4,h5,h6,b',o',h7,h8⟩ =>
  ⟨h0,h1,h2,A,len,cap,h3,h4,h5,h6,b',o',fun h=>⟨(h7 h).1,(h7 h).2,RowAt.lt l b' o' (List.length_pos_iff.1 (by omega)) h8⟩,RowAt.bound l b' o' h8⟩
theorem RowAt.bound{ok:Nat→Prop}{w:World}:∀(l:List It) (b o:Nat),RowAt w ok l b o→RowAt w (fun c=>ok c∧c<w.heap.size) l b o
 | [],_,_,_=>trivial
 | x::l,b,o,⟨h,h'⟩=>⟨CellsAt.bound x b o h,RowAt.bound l b (o+4) h'⟩
theorem RowAt.lt{ok:Nat→Prop}{w:World}:∀(l:List It) (b o:Nat),l≠[]→RowAt w ok l b o→b<w.heap.size
 | .mk _ _ _ _::_,b,o,_,⟨⟨h0,_⟩,_⟩=>World.block_lt_of_cell? w ⟨b,o,none⟩ h0
end
theorem SlAt.bound{w:World}{ok:Nat→Prop}{A:Option Addr}{len cap:Nat}{l:List It}(h:SlAt w ok A len cap l):SlAt w (fun c=>ok c∧c<w.heap.size) A len cap l:=
 let ⟨h1,h2,h3,b,o,h4,h5⟩:=h
 ⟨h1,h2,h3,b,o,fun h=>⟨(h4 h).1,(h4 h).2,RowAt.lt l b o (List.length_pos_iff.1 (by omega)) h5⟩,RowAt.bound l b o h5⟩
theorem SlAt.nil(w:World)(ok:Nat→Prop):SlAt w ok none 0 0 []:=⟨rfl,Nat.le_refl _,by omega,0,0,fun h=>absurd h (by omega),trivial⟩
def RowV(w:World)(ok:Nat→Prop):List Value→List It→Prop
 | [],[]=>True
 | k::n::t::s::vs,x::l=>k=.int .i64 x.kind∧n=.string x.nat∧t=.string x.text∧(∃ A len cap,s=.slice A len cap∧SlAt w ok A len cap x.list)∧RowV w ok vs l
 | _,_=>False
theorem RowV.keep{ok:Nat→Prop}{w w':World}(hb:Agree ok w w'):∀(vs:List Value) (l:List It),RowV w ok vs l→RowV w' ok vs l
 | [],[],_=>trivial
 | k::n::t::s::vs,x::l,⟨h1,h2,h3,⟨A,len,cap,h4,h5⟩,h6⟩=>⟨h1,h2,h3,⟨A,len,cap,h4,h5.keep hb⟩,RowV.keep hb vs l h6⟩
theorem RowV.low{ok ok':Nat→Prop}{w:World}(hl:∀ b,ok b→ok' b):∀(vs:List Value) (l:List It),RowV w ok vs l→RowV w ok' vs l
 | [],[],_=>trivial
 | k::n::t::s::vs,x::l,⟨h1,h2,h3,⟨A,len,cap,h4,h5⟩,h6⟩=>⟨h1,h2,h3,⟨A,len,cap,h4,h5.low hl⟩,RowV.low hl vs l h6⟩
theorem RowV.bound{ok:Nat→Prop}{w:World}:∀(vs:List Value) (l:List It),RowV w ok vs l→RowV w (fun c=>ok c∧c<w.heap.size) vs l
 | [],[],_=>trivial
 | k::n::t::s::vs,x::l,⟨h1,h2,h3,⟨A,len,cap,h4,h5⟩,h6⟩=>⟨h1,h2,h3,⟨A,len,cap,h4,h5.bound⟩,RowV.bound vs l h6⟩
theorem RowV.snoc{w:World}{ok:Nat→Prop}{x:It}{A:Option Addr}{len cap:Nat}(hs:SlAt w ok A len cap x.list):∀(vs:List Value) (l:List It),RowV w ok vs l →
 RowV w ok (vs++[.int .i64 x.kind,.string x.nat,.string x.text,.slice A len cap]) (l++[x])
 | [],[],_=>⟨rfl,rfl,rfl,⟨A,len,cap,rfl,hs⟩,trivial⟩
 | k::n::t::s::vs,y::l,⟨h1,h2,h3,h4,h6⟩=>⟨h1,h2,h3,h4,RowV.snoc hs vs l h6⟩
theorem RowV.length{w:World}{ok:Nat→Prop}:∀ {vs:List Value} {l:List It},RowV w ok vs l→vs.length=l.length * 4
 | [],[],_=>rfl
 | k::n::t::s::vs,x::l,⟨_,_,_,_,h⟩=>by have:=RowV.length h;simp only[List.length_cons];omega
theorem RowV.row{w:World}{ok:Nat→Prop}{b:Nat}:∀ {vs:List Value} {l:List It} {o:Nat},RowV w ok vs l→(∀ j u,vs[j]? =some u→w.cell? ⟨b,o+j,none⟩=some u)→RowAt w ok l b o
 | [],[],_,_,_=>trivial
 | k::n::t::s::vs,x::l,o,⟨h1,h2,h3,⟨A,len,cap,h4,h5⟩,h6⟩,hc=>by
  refine⟨CellsAt.mk' (A:=A) (len:=len) (cap:=cap) ?_ ?_ ?_ ?_ h5,RowV.row h6 fun j u hj=>?_⟩
  · rw[←h1];exact hc 0 k rfl
  · rw[←h2];exact hc 1 n rfl
  · rw[←h3];exact hc 2 t rfl
  · rw[←h4];exact hc 3 s rfl
  · rw[show o+4+j=o+(j+4)from by omega];exact hc (j+4) u hj
theorem RowV.slice{w:World}{ok:Nat→Prop}{base:Nat}{e:TypeId}{A:Option Addr}{len n cap:Nat}{vs:List Value}{l:List It}(h:RowV w ok vs l)(hown:w.ownsRow base e 4 (.slice A len cap) n vs)(hb:∀ g,(Value.slice A len cap).ownBlock=some g→ok g) :
 len=n∧SlAt w ok A n cap l:=by
 have hlen:=h.length;have h1:=hown.1;rcases hown.2 with⟨hv,h0⟩ | ⟨g,cap,cur,hv,hbg,hg,hn,hm,hs,ht⟩
 · simp only[Value.slice.injEq]at hv;obtain⟨rfl,rfl,rfl⟩:=hv;subst h0;have : l=[]:=List.length_eq_zero_iff.1 (by omega);subst this;exact⟨rfl,SlAt.nil w ok⟩
 · simp only[Value.slice.injEq]at hv;obtain⟨rfl,rfl,rfl⟩:=hv;refine⟨rfl,by omega,hn,hm,g,0,fun _=>⟨rfl,hb g rfl⟩,h.row fun j u hj=>?_⟩;have:=hown.cells (g:=g) rfl j u hj;rw[show (0:Nat)+j=j from by omega];unfold Addr.add at this;split at this
   · subst_vars;exact this
   · simpa using this
mutual
theorem CellsAt.vals{w:World}{ok:Nat→Prop}:∀(x:It) (b o:Nat),CellsAt w ok x b o→∃ A len cap,SlAt w ok A len cap x.list∧w.cell? ⟨b,o,none⟩=some (.int .i64 x.kind)∧w.cell? ⟨b,o+1,none⟩=some (.string x.nat)∧w.cell? ⟨b,o+2,none⟩=some (.string x.text)∧w.cell? ⟨b,o+3,none⟩=some (.slice A len cap)
 | x,b,o,h=>let ⟨A,len,cap,h0,h1,h2,h3,h4⟩:=h.open;⟨A,len,cap,h4,h0,h1,h2,h3⟩
theorem RowAt.vals{w:World}{ok:Nat→Prop}:∀(l:List It) (b o:Nat),RowAt w ok l b o→∃ vs,RowV w ok vs l∧(∀ j u,vs[j]? =some u→w.cell? ⟨b,o+j,none⟩=some u)∧∀ u∈vs,u.oneCell'=true
 | [],_,_,_=>⟨[],trivial,fun j u h=>by simp at h,fun u h=>by simp at h⟩
 | x::l,b,o,⟨h,h'⟩=>by
  obtain⟨A,len,cap,h4,h0,h1,h2,h3⟩:=CellsAt.vals x b o h;obtain⟨vs,hr,hc,ho⟩:=RowAt.vals l b (o+4) h';refine⟨.int .i64 x.kind::.string x.nat::.string x.text::.slice A len cap::vs,⟨rfl,rfl,rfl,⟨A,len,cap,rfl,h4⟩,hr⟩,fun j u hj=>?_,fun u hu=>?_⟩
  · match j,hj with
    | 0,hj=>rw[←Option.some.inj hj];exact h0
    | 1,hj=>rw[←Option.some.inj hj];exact h1
    | 2,hj=>rw[←Option.some.inj hj];exact h2
    | 3,hj=>rw[←Option.some.inj hj];exact h3
    | j+4,hj=>rw[show o+(j+4)=o+4+j from by omega];exact hc j u hj
  · simp only[List.mem_cons]at hu;rcases hu with rfl | rfl | rfl | rfl | hu
    · rfl
    · rfl
    · rfl
    · rfl
    · exact ho u hu
end
theorem take_snoc{α:Type}{l:List α}{k:Nat}{y:α}(h:l[k]? =some y):l.take (k+1)=l.take k++[y]:=by
 obtain⟨h1,rfl⟩:=List.getElem?_eq_some_iff.1 h;exact List.take_succ_eq_append_getElem h1
theorem Its.weight_take_le(l:List It)(k:Nat):Its.weight (l.take k)≤Its.weight l:=by
 have:=Its.weight_append (l.take k) (l.drop k);rw[List.take_append_drop]at this;omega
def RetIt(x:It)(w:World)(e:Ending)(w':World):Prop:=∃ v,e=.returned v∧ItAt w' (fun b=>w.heap.size≤b) v x∧Below w.heap.size w w'
end Go.Proofs.YtamhonjkgkmdbaaGreatDoor
