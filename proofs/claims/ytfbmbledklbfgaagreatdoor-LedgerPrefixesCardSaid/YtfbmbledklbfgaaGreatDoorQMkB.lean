import Derived.Test.YtfbmbledklbfgaaGreatDoorQShE
import Derived.Lib.BufferWrite
import Derived.Test.YtfbmbledklbfgaaGreatDoorQSet
set_option linter.unusedVariables false
set_option linter.unusedSimpArgs false
namespace Go.Proofs.YtfbmbledklbfgaaGreatDoor
open Go.RowKit Go.Lib
theorem byte_info:(Tryz.prog.info? 5).map (fun i=>(i.zero,i.size,i.bytes))=some (some (.int .u8 0),1,1):=by kernel_rfl
theorem make_room(n c:Nat)(hn:n≤c)(hc:c≤281474976710656)(w:World):(Instr.makeSlice 108 (.int .i64 n) (.int .i64 c)).run Tryz.prog w=.ok (.slice (some ⟨w.heap.size,0,none⟩) n c) (w.alloc (.cells (madeCells #[.int .u8 0] c) 5)):=by
 obtain⟨i0,hi,hz0,hz1,hz2⟩:=info_parts byte_info;have h:=run_make (P:=Tryz.prog) w 108 5 i0 (.int .u8 0) Tryz.underlying108 hi hz0 .i64 .i64 (n:Int) (c:Int) (by omega) (by omega) (by rw[hz2];omega) (by omega);rw[h,hz1,Int.toNat_natCast,Int.toNat_natCast,Nat.mul_one];rfl
def MsgAt(w:World)(g cap:Nat)(l:List UInt8):Prop:=w.ownsRow g 5 1 (.slice (some ⟨g,0,none⟩) l.length cap) l.length (Lib.byteCells l)
theorem MsgAt.kept{w w':World}{g cap:Nat}{l:List UInt8}(h:MsgAt w g cap l)(hb:Below w.heap.size w w'):MsgAt w' g cap l:=owns_kept h hb nlr
theorem MsgAt.lt{w:World}{g cap:Nat}{l:List UInt8}(h:MsgAt w g cap l):g<w.heap.size:=(World.ownsRow.lt h g rfl).2
theorem MsgAt.room{w:World}{g cap:Nat}{l:List UInt8}(h:MsgAt w g cap l):l.length≤cap∧cap≤maxLen:=by
 rcases h.2 with⟨h,_⟩ | ⟨g',cap',cur,hv,_,_,h1,h2,_⟩
 · cases h
 · cases hv;exact⟨h1,h2⟩
theorem MsgAt.bytes{w:World}{g cap:Nat}{l:List UInt8}(h:MsgAt w g cap l):BytesAt w (some ⟨g,0,none⟩) l.length cap l:=by
 refine⟨rfl,h.room.1,by have:=h.room.2;unfold maxLen at this;omega,fun _=>⟨g,0,rfl,fun k hk=>?_⟩⟩;have:=World.ownsRow.cells h rfl k (.int .u8 (byteI l k)) (by
  unfold Lib.byteCells byteI;rw[List.getElem?_map,List.getElem?_eq_getElem hk,List.getD_eq_getElem?_getD,List.getElem?_eq_getElem hk]
  rfl)
 rwa[Addr.add_lit]at this
theorem copied(w:World)(s:ByteArray)(c:Nat)(hs:s.size≤c)(hc:c≤maxLen) :
 MsgAt ((w.alloc (.cells (madeCells #[.int .u8 0] c) 5)).setRow w.heap.size (((madeCells #[.int .u8 0] c).toList.take 0++Lib.byteCells s.data.toList++(madeCells #[.int .u8 0] c).toList.drop (0+s.size)).toArray)) w.heap.size c s.data.toList:=by
 have hl:s.data.toList.length=s.size:=Array.length_toList;refine⟨by simp[Lib.byteCells],.inr ⟨w.heap.size,c,_,rfl,Nat.le_refl _,setRow_heap _ _ _ _ _ _ (heap_alloc_new _ _),by omega,hc,?_,?_⟩⟩
 · simp[byteCells_length,hl,size_madeCells];omega
 · simp[byteCells_length]
theorem copied_below(w:World)(A B:Array Value)(T:TypeId):Below w.heap.size w ((w.alloc (.cells A T)).setRow w.heap.size B):=below_setRow ((blr).alloc nlr _) nlr _
theorem wpList_append_msg(w:World){ops:Array Oper}{rest:List Oper}{o:Oper}{a:Act}{Q:Exit→Act→World→Prop}(hg:o.guard=none)(s x:Operand)(hop:o.op=Op.call { callee:=Callee.builtin Builtin.append,args:=#[s,x],argTypes:=#[108,108] })
 (g cap k m:Nat) (xs ys:List UInt8) (hk:xs.length=k) (hl:ys.length=m) (hs:a.eval s=.slice (some ⟨g,0,none⟩) k cap) (hm:MsgAt w g cap xs) (B c:Nat) (hx:a.eval x=.slice (some ⟨B,0,none⟩) m c) {T:TypeId} {fr:Nat×Nat}
 (hB:w.heap[B]? =some (.cells (Lib.byteCells ys).toArray T fr)) (hr:k+m≤cap)
 (hK:∀ w',MsgAt w' g cap (xs++ys)→Below g w w'→wpList Tryz.prog ops Q rest (a.put o.dst (.slice (some ⟨g,0,none⟩) (k+m) cap)) w'):wpList Tryz.prog ops Q (o::rest) a w:=by
 subst hk hl;obtain⟨i0,hi,hz0,hz1,hz2⟩:=info_parts byte_info;refine wpList_append_fits w hg s x 108 hop g 5 i0 1 Tryz.underlying108 hi hz1 g xs.length cap (Lib.byteCells xs) hs hm ⟨B,0,none⟩ ys.length c (Lib.byteCells ys) hx (by simp[Lib.byteCells]) (fun j u hj=>?_) (byteCells_one ys) hr (fun w' h1 h2=>hK w' ?_ ?_)
 · rw[Addr.add_lit,Nat.zero_add,Lib.cell_of_heap hB];simpa using hj
 · unfold MsgAt;rw[byteCells_append,List.length_append];exact h1
 · exact⟨h2.os,h2.tape,h2.output,h2.size,fun k hk=>h2.block k (by have:=hm.lt;omega) (by simp;omega)⟩
theorem wpList_copy_ran{P:Program}(w:World){ops:Array Oper}{rest:List Oper}{o:Oper}{a:Act}{Q:Exit→Act→World→Prop}(hgd:o.guard=none)(d s:Operand)(t t':TypeId)
 (ho:o.op=.call { callee:=.builtin .copy,args:=#[d,s],argTypes:=#[t,t'] }) (v u:Value) (hd:a.eval d=v) (hs:a.eval s=u) {v':Value} {w':World}
 (hr:(Builtin.copy_ #[t,t'] o.type #[v,u]).run P w=.ok v' w') (h:wpList P ops Q rest (a.put o.dst v') w'):wpList P ops Q (o::rest) a w:=by
 refine wpList_plain hgd fun K hK=>?_;unfold Oper.wp;simp[execOp,ho,resolve,invoke,builtin,hd,hs,hr,Result.andThen];exact hK _ _ h
theorem copy_run(w:World)(s:ByteArray)(n c:Nat)(hs:s.size=n)(hc:n≤c)(ty:TypeId) :
 (Builtin.copy_ #[108,9] ty #[.slice (some ⟨w.heap.size,0,none⟩) n c,.string s]).run Tryz.prog (w.alloc (.cells (madeCells #[.int .u8 0] c) 5)) =
  .ok (goInt n) ((w.alloc (.cells (madeCells #[.int .u8 0] c) 5)).setRow w.heap.size (((madeCells #[.int .u8 0] c).toList.take 0++Lib.byteCells s.data.toList++(madeCells #[.int .u8 0] c).toList.drop (0+s.size)).toArray)):=by
 subst hs;exact run_copy_row_string _ _ _ _ 5 _ _ _ _ _ _ _ Tryz.underlying108 (by kernel_rfl) (heap_alloc_new _ _) nlr (by rw[size_madeCells];omega)
theorem load_row_run{P:Program}{op:Oper}{ρ:Operand→Value}{w:World}(ty:TypeId)(x:Operand)(ho:op.op=.load ty x)(g:Nat)(hx:ρ x=.pointer (some ⟨g,0,none⟩)){t:TypeId}{cs:Array Value}{fr:Nat×Nat}(d:TypeDesc)
 (hg:w.heap[g]? =some (.cells cs t fr)) (hu:P.underlying ty=some d) (hd:(match d with | .struct _ | .array _ _=>true | _=>false)=true) (hi:(P.info? ty).map (·.size)=some cs.size) :
 (execOp ρ op).run P w=.ok (.value (.agg cs)) w:=by
 unfold execOp;simp only[ho,hx,Instr.loadAt,Instr.sureAddr,Sem.run_bind,Sem.run_pure,Result.andThen_ok,run_loadVar_row w g t ty cs fr d hg hu hd hi]
theorem BytesAt.front{w:World}{A:Option Addr}{n c:Nat}{l:List UInt8}(h:BytesAt w A n c l)(k:Nat)(hk:k≤n):BytesAt w A k c (l.take k):=by
 obtain⟨h1,h2,h3,h4⟩:=h;refine⟨by simp[h1];omega,by omega,h3,fun hp=>?_⟩;obtain⟨b,o,e,hc⟩:=h4 (by omega);refine⟨b,o,e,fun j hj=>?_⟩;rw[hc j (by omega)];unfold byteI;rw[List.getD_eq_getElem?_getD,List.getD_eq_getElem?_getD,List.getElem?_take,if_pos hj]
theorem BytesAt.keptB{w w':World}{b o n c B:Nat}{l:List UInt8}(h:BytesAt w (some ⟨b,o,none⟩) n c l)(hb:Below B w w')(hB:b<B):BytesAt w' (some ⟨b,o,none⟩) n c l:=by
 obtain⟨h1,h2,h3,h4⟩:=h;refine⟨h1,h2,h3,fun hp=>?_⟩;obtain⟨b',o',e,hc⟩:=h4 hp;cases e;exact⟨b,o,rfl,fun k hk=>(hb.cell (p:=⟨b,o+k,none⟩) hB).trans (hc k hk)⟩
theorem own_bytes{w:World}{base n:Nat}{v:Value}{l:List UInt8}(h:w.ownsRow base 5 1 v n (Lib.byteCells l))(hl:l.length=n):∃ A c,v=.slice A n c∧BytesAt w A n c l:=by
 rcases h.2 with⟨hv,hx⟩ | ⟨g,cap,cur,hv,hb,hg,h1,h2,h3,h4⟩
 · have h0:l=[]:=List.length_eq_zero_iff.1 (hl.trans hx);subst h0;subst hx;exact⟨none,0,hv,rfl,Nat.le_refl _,by omega,fun h=>by omega⟩
 · have hm:maxLen=9223372036854775807:=rfl;refine⟨some ⟨g,0,none⟩,cap,hv,hl,h1,by omega,fun _=>⟨g,0,rfl,fun k hk=>?_⟩⟩;have:=World.ownsRow.cells h (g:=g) (by rw[hv];rfl) k (.int .u8 (byteI l k)) (by
    unfold Lib.byteCells byteI;rw[List.getElem?_map,List.getElem?_eq_getElem (by omega),List.getD_eq_getElem?_getD,List.getElem?_eq_getElem (by omega)]
    rfl)
   rwa[Addr.add_lit]at this
theorem word_cells(x:BitVec 32):(#[Value.int .u8 (wi x / 16777216%256),Value.int .u8 (wi x / 65536%256),Value.int .u8 (wi x / 256%256),Value.int .u8 (wi x%256)]:Array Value)=(Lib.byteCells (wo x)).toArray:=by
 have e:∀ n:Nat,((UInt8.ofNat n).toNat:Int)=(n:Int)%256:=fun n=>by rw[UInt8.toNat_ofNat'];simp
 unfold wo Lib.byteCells wi;simp only[List.map_cons,List.map_nil,e];simp
theorem wpList_append_word(w:World){ops:Array Oper}{rest:List Oper}{o:Oper}{a:Act}{Q:Exit→Act→World→Prop}(hg:o.guard=none)(s x:Operand)(hop:o.op=Op.call { callee:=Callee.builtin Builtin.append,args:=#[s,x],argTypes:=#[108,108] })
 (base n:Nat) (v:Value) (xs:List UInt8) (hs:a.eval s=v) (hm:w.ownsRow base 5 1 v n (Lib.byteCells xs)) (hn:n≤1000) (B c:Nat) (y:BitVec 32) (hx:a.eval x=.slice (some ⟨B,0,none⟩) 4 c) {T:TypeId} {fr:Nat×Nat}
 (hB:w.heap[B]? =some (.cells (Lib.byteCells (wo y)).toArray T fr)) (hbase:base≤w.heap.size)
 (hK:∀ v' w',w'.ownsRow base 5 1 v' (n+4) (Lib.byteCells (xs++wo y))→Below base w w'→wpList Tryz.prog ops Q rest (a.put o.dst v') w'):wpList Tryz.prog ops Q (o::rest) a w:=by
 obtain⟨i0,hi,hz0,hz1,hz2⟩:=info_parts byte_info;have hml:maxLen=9223372036854775807:=rfl;refine wpList_append_lies w hg s x 108 hop base 5 i0 (.int .u8 0) 1 1 Tryz.underlying108 hi hz0 hz1 hz2 rfl (by decide) v n (Lib.byteCells xs) hs hm ⟨B,0,none⟩ 4 c (Lib.byteCells (wo y)) hx rfl (fun j u hj=>?_) (byteCells_one _) (by decide) (by omega) (by omega) hbase _ rfl (fun g cap w' h1 h2 h3 h4=>hK _ w' ?_ ?_)
 · rw[Addr.add_lit,Nat.zero_add,Lib.cell_of_heap hB];simpa using hj
 · rw[byteCells_append];exact h1
 · exact⟨h2.os,h2.tape,h2.output,h2.size,fun k hk=>h2.block k (by omega) (fun e=>by have:=(hm.lt k e.symm).1;omega)⟩
theorem index_word(s:W8)(i:Nat)(h:i<8)(w:World):(Instr.index 122 (.agg s.arr) (.int .i64 (i:Int))).run Tryz.prog w=.ok (.int .u32 (wi (s.at i))) w:=by
 match i,h with
 | 0,_=>show _=_;kernel_rfl
 | 1,_=>show _=_;kernel_rfl
 | 2,_=>show _=_;kernel_rfl
 | 3,_=>show _=_;kernel_rfl
 | 4,_=>show _=_;kernel_rfl
 | 5,_=>show _=_;kernel_rfl
 | 6,_=>show _=_;kernel_rfl
 | 7,_=>show _=_;kernel_rfl
theorem ws_take(s:W8)(i:Nat)(h:i<8):(s.ws.take (i+1)).flatMap wo=(s.ws.take i).flatMap wo++wo (s.at i):=by
 have hl:i<s.ws.length:=h;rw[List.take_add_one,List.flatMap_append,List.getElem?_eq_getElem hl];unfold W8.at;rw[List.getD_eq_getElem?_getD,List.getElem?_eq_getElem hl];simp
set_option maxRecDepth 100000
set_option maxHeartbeats 2000000
theorem shE8_get(N:Nat){q:Nat}(h:q<8):(shE8 N).take (q+1)=(shE8 N).take q++[UInt8.ofNat (N / 2 ^ (56 - 8 * q))]:=by
 match q,h with
 | 0,_=>rfl
 | 1,_=>rfl
 | 2,_=>rfl
 | 3,_=>rfl
 | 4,_=>rfl
 | 5,_=>rfl
 | 6,_=>rfl
 | 7,_=>show shE8 N=_;unfold shE8;simp
theorem byte_val(n sh:Nat):(#[Value.int .u8 ((n:Int) * 8 / 2 ^ sh%256)]:Array Value)=(Lib.byteCells [UInt8.ofNat (n * 8 / 2 ^ sh)]).toArray:=by
 have : ((n:Int) * 8 / 2 ^ sh%256)=((n * 8 / 2 ^ sh%256:Nat):Int):=by simp
 rw[this];simp[Lib.byteCells,UInt8.toNat_ofNat']
theorem h_Sum(s:ByteArray)(hs:s.size≤1000000000000)(w:World):Calls Tryz.prog 38 #[.string s] w (Ret (.string (bstr (shaL s.data.toList))) w):=by
 obtain⟨n,hn⟩:∃ n,s.size=n:=⟨_,rfl⟩;obtain⟨l,hl⟩:∃ l,s.data.toList=l:=⟨_,rfl⟩;have hll:l.length=n:=by rw[←hl,←hn];exact Array.length_toList
 obtain⟨r,hr⟩:∃ r,bstr (shaL l)=r:=⟨_,rfl⟩;have HR:=Hq hr;have HL:=Hq hll;have hmk:=make_room n (n+72) (by omega) (by omega) w;simp only[Int.natCast_add,Int.cast_ofNat_Int]at hmk;have HCR:=Hq (copy_run w s n (n+72) hn (by omega) 3);have HM1:=Hq (copied w s (n+72) (by omega) (by unfold maxLen;omega));rw[hl]at HCR HM1⊢;rw[hr];obtain⟨w1,hw1⟩:∃ w1,(w.alloc (.cells (madeCells #[.int .u8 0] (n+72)) 5)).setRow w.heap.size (((madeCells #[.int .u8 0] (n+72)).toList.take 0++Lib.byteCells l++(madeCells #[.int .u8 0] (n+72)).toList.drop (0+s.size)).toArray)=w1:=⟨_,rfl⟩;have HB1:=Hq (show Below w.heap.size w w1 from hw1▸copied_below _ _ _ _);rw[hw1]at HCR HM1;clear hw1 hr hl hll;rw[hn]at hs;have hsi:(n:Int)≤1000000000000:=by omega
 clear hs;go_enter Tryz.func38,Tryz.ntmps38;go_wp2_with (first
  | refine wpList_copy_ran _ rfl (.tmp 16) (.tmp 17) 108 9 rfl _ _ rfl rfl HCR.out ?_
  | (at_builtin;refine wpList_append_msg _ rfl (.tmp 19) (.tmp 20) rfl w.heap.size (n+72) n 1 l [128] HL.out rfl rfl (HM1.out.kept ((blr).alloc nlr _)) w1.heap.size 1 rfl (heap_alloc_new _ _) (by omega) ?_))
 intro w2 hm2 hb2;obtain⟨H,hH⟩:∃ H,w.heap.size=H:=⟨_,rfl⟩;rw[hH]at HB1 HM1 hm2 hb2⊢;have HM2:=Hq hm2;have HB2:=Hq (show Below H w w2 from(HB1.out.alloc (by rw[←hH];exact HB1.out.size) _).trans hb2);clear hm2 hb2 HM1 HB1 HCR hmk;have HZ:=Hq (show zs n=(119 - n%64)%64 from rfl);go_wp2;go_loopw [3] (fun v wr=>∃ k:Nat,k≤zs n∧v=.slice (some ⟨H,0,none⟩) (n+1+k) (n+72)∧MsgAt wr H (n+72) (l++[128]++List.replicate k 0)∧Below H w wr) (fun v _=>n+100 - sliceLen v);case atStart=>exact⟨0,Nat.zero_le _,rfl,by simpa using HM2.out,HB2.out⟩
 case round =>
  obtain⟨k,hk,rfl,hm,hb⟩:=hrel;have HM:=Hq hm;have HB:=Hq hb;clear hm hb;obtain⟨j,hj⟩:∃ j,n+1+k=j:=⟨_,rfl⟩;have HJ:=Hq hj;rw[hj];have HLEN:=Hq (show (l++[128]++List.replicate k 0).length=j from by simp[HL.out];omega);by_cases hlt:k<zs n
  · have hne:¬ ((j:Int)%64=56):=by have:=HZ.out;omega
    have hj72:j+1≤n+72:=by have:=HZ.out;omega
    clear hj hk;go_wp2_with (at_builtin;refine wpList_append_msg _ rfl (.tmp 26) (.tmp 27) rfl H (n+72) j 1 (l++[128]++List.replicate k 0) [0] HLEN.out rfl rfl (HM.out.kept ((blr).alloc nlr _)) wr.heap.size 1 rfl (heap_alloc_new _ _) hj72 ?_);intro w3 hm3 hb3;have HM3:=Hq hm3;have HB3:=Hq (show Below H w w3 from(HB.out.alloc (by have:=HM.out.lt;omega) _).trans hb3);clear hm3 hb3 hj72 hne;go_wp2;go_roundw;case rel =>
     refine⟨k+1,by omega,by have:=HJ.out;rw[←this];rfl,?_,HB3.out⟩;rw[List.replicate_succ',←List.append_assoc];simpa using HM3.out
    case measure=>have:=HJ.out;have:=HZ.out;simp[sliceLen];omega
  · have he:(j:Int)%64=56:=by have:=HZ.out;omega
    have HKZ:=Hq (show k=zs n from by omega);have HMZ:=Hq (show MsgAt wr H (n+72) (l++[128]++List.replicate (zs n) 0)from by rw[←HKZ.out];exact HM.out);obtain⟨M,hM⟩:∃ M,l++[128]++List.replicate (zs n) 0=M:=⟨_,rfl⟩;rw[hM]at HMZ;have HLM:=Hq (show M.length=j from by rw[←hM,←HKZ.out];exact HLEN.out);have hj64:=Hq (show j+8≤n+72 from by have:=HZ.out;omega);have HMM:=Hq hM;clear hM HM hk hlt hj HLEN HJ;go_wp2;clear he;go_loopw [3,5] (fun v i wr=>∃ q:Nat,q≤8∧v=.slice (some ⟨H,0,none⟩) (j+q) (n+72)∧i=.int .i64 (56 - 8 * (q:Int))∧MsgAt wr H (n+72) (M++(shE8 (n * 8)).take q)∧Below H w wr) (fun v _ _=>n+100 - sliceLen v);case atStart=>exact⟨0,Nat.zero_le _,rfl,rfl,by simpa using HMZ.out,HB.out⟩
    case round =>
     obtain⟨q,hq,rfl,rfl,hm,hb⟩:=hrel;have HM:=Hq hm;have HB:=Hq hb;clear hm hb;by_cases hlt:q<8
     · obtain⟨sh,hsh⟩:∃ sh,56 - 8 * q=sh:=⟨_,rfl⟩;have hshi:(56:Int) - 8 * (q:Int)=(sh:Int):=by omega
       have hsh64:(sh:Int)<64:=by omega
       have HV:=Hq (byte_val n sh);have HTK:=Hq (shE8_get (n * 8) hlt);rw[hsh]at HTK;have HLQ:=Hq (show (M++(shE8 (n * 8)).take q).length=j+q from by rw[List.length_append,HLM.out,List.length_take];simp[shE8];omega);have hfit:j+q+1≤n+72:=by have:=hj64.out;omega
       clear hsh;go_wp2_with (at_builtin;refine wpList_append_msg _ rfl (.tmp 37) (.tmp 42) rfl H (n+72) (j+q) 1 (M++(shE8 (n * 8)).take q) [UInt8.ofNat (n * 8 / 2 ^ sh)] HLQ.out rfl rfl (HM.out.kept ((blr).alloc nlr _)) wr.heap.size 1 rfl (by rw[←HV.out];exact heap_alloc_new _ _) hfit ?_);intro w3 hm3 hb3;have HM3:=Hq hm3;have HB3:=Hq (show Below H w w3 from(HB.out.alloc (by have:=HM.out.lt;omega) _).trans hb3);clear hm3 hb3 hfit;have hsub:(sh:Int) - 8=56 - 8 * ((q+1:Nat):Int):=by omega
       go_wp2;go_roundw;case rel =>
        refine⟨q+1,by omega,rfl,?_,?_,HB3.out⟩
        · simp
        · rw[HTK.out];exact HM3.out
       case measure=>have:=hj64.out;simp[sliceLen];omega
     · have HQ:=Hq (show q=8 from by omega);have hge:¬ ((0:Int)≤56 - 8 * (q:Int)):=by omega
       obtain⟨Ln,hLn⟩:∃ x,j+q=x:=⟨_,rfl⟩;have HP:=Hq (show MsgAt wr H (n+72) (padL l)from by
        have h:=HM.out;rw[HQ.out,←HMM.out]at h;unfold padL;rw[HL.out]
        exact h)
       have HLP:=Hq (show (padL l).length=Ln from by rw[padL_length,←hLn,HQ.out];have h1:=HLM.out;rw[←HMM.out]at h1;simp[HL.out]at h1⊢;omega);have HMOD:=Hq (show Ln%64=0 from by rw[←HLP.out];exact padL_mod l);rw[hLn];clear hLn HM hq hlt HMZ HLM HMM;go_wp2_with fail;refine(h_first _).mono ?_;rintro e w4 ⟨rfl,hb4⟩;dsimp only;have HB4:=Hq (show Below H w w4 from HB.out.trans (hb4.mono (by have:=HP.out.lt;omega)));have HP4:=Hq (HP.out.kept hb4);clear hb4 HB HP;obtain⟨X,hX⟩:∃ X,w4.heap.size=X:=⟨_,rfl⟩;have hHX:H<X:=by rw[←hX];exact HP4.out.lt
       go_step;refine Great.wpList_allocTo rfl _ rfl (.pointer (some ⟨X,0,none⟩)) (.cells z8 122) (by rw[←hX];kernel_rfl) ?_;refine wpList_store_rowTo rfl 122 _ _ rfl rfl X st0.arr (by kernel_rfl) (by kernel_rfl) 122 z8 (by rw[←hX];exact heap_alloc_new _ _) (by kernel_rfl) (by kernel_rfl) (W8.arr_one _) ?_;rw[←hX,World.setRow_alloc_new];obtain⟨w5,hw5⟩:∃ w5,w4.alloc (.cells st0.arr 122)=w5:=⟨_,rfl⟩;have hb5:Below X w4 w5:=hX▸hw5▸(blr).alloc nlr _;have HX5:=Hq (show RowS w5 X st0 from by rw[←hw5,←hX];exact heap_alloc_new _ _);have HB5:=Hq (show Below H w w5 from HB4.out.trans (hb5.mono (by omega)));have HP5:=Hq (HP4.out.kept (hX▸hb5));rw[hw5,hX];clear hw5 hb5 HB4 HP4;obtain⟨P,hP⟩:∃ P,padL l=P:=⟨_,rfl⟩;have HPP:=Hq hP;rw[hP]at HLP HP5;clear hP;go_wp2;simp only[Act.put,sqA,sqB,sqC];go_loopw [3] (fun v wr=>∃ i o c:Nat,64 * i≤Ln∧v=.slice (some ⟨H,o,none⟩) (Ln - 64 * i) c∧BytesAt wr (some ⟨H,o,none⟩) (Ln - 64 * i) c (P.drop (64 * i))∧RowS wr X (blks st0 i P)∧Below H w wr∧X<wr.heap.size) (fun v _=>sliceLen v);case atStart=>exact⟨0,0,n+72,Nat.zero_le _,rfl,by have:=HP5.out.bytes;rw[HLP.out]at this;exact this,HX5.out,HB5.out,HX5.out.lt⟩
       case round =>
        obtain⟨i,o,c,hi,rfl,hby,hx,hb,hxs⟩:=hrel
        have HBY:=Hq hby
        have HX:=Hq hx;have HB:=Hq hb;clear hby hx hb;obtain⟨rem,hrem⟩:∃ x,Ln - 64 * i=x:=⟨_,rfl⟩;rw[hrem]at HBY⊢;by_cases h0:0<rem
        · have hr64:64≤rem:=by have:=HMOD.out;omega
          have hri:0<(rem:Int):=by omega
          have hc64:64≤c:=by have:=HBY.out.2.1;omega
          have hc64i:(64:Int)≤(c:Int):=by omega
          have hr64i:(64:Int)≤(rem:Int):=by omega
          have HLD:=Hq (show ∀ w',Below wr.drew.heap.size wr.drew w'→RowS w' X (blks st0 i P)from fun w' hb=>(show RowS wr.drew X (blks st0 i P)from HX.out).kept hb hxs);go_wp2
          trace_state
          refine wp_region_K 4 (Below (wr.drew).heap.size (wr.drew)) (by kernel_rfl) ?_;intro hD;refine wpAnyK_takeD (i:=0) (d:=some 50) (v:=(.agg (blks st0 i P).arr)) (fuel:=4) rfl (by kernel_rfl) (by kernel_rfl) (by kernel_rfl) (fun _ _ _ h=>h) hD blr (.inl ⟨by kernel_rfl,?y14_0b1⟩) ?n14_0b1;case y14_0b1 =>
           intro w' hS';exact load_row_run 122 _ rfl X rfl _ (HLD.out _ hS') Tryz.underlying122 rfl (by kernel_rfl)
          clear hD;intro hD;simp only[Act.put,sqA,sqB,sqC];refine qPD 1 51 3 rfl hD blr ?_;clear hD;intro hD;simp only[Act.put,sqA,sqB,sqC];refine qPD 2 52 2 rfl hD blr ?_;clear hD;intro hD;simp only[Act.put,sqA,sqB,sqC];refine rO 3 1 rfl hD ?_;clear hD;intro K3 hK3;go_wp2_with fail;refine(h_after (blks st0 i P) ((P.drop (64 * i)).take 64) H o c _ ((show BytesAt wr.drew _ _ _ _ from HBY.out).front 64 hr64)).mono ?_;rintro e w6 ⟨rfl,hb6⟩;have HX6:=Hq (show RowS w6 X (blks st0 i P)from(show RowS wr.drew X (blks st0 i P)from HX.out).kept hb6 hxs);have HBY6:=Hq ((show BytesAt wr.drew _ _ _ _ from HBY.out).kept hb6);have HB6:=Hq (show Below H w w6 from HB.out.drew.trans (hb6.mono (by show H≤wr.heap.size;omega)));have HS6:=Hq (show X<w6.heap.size from HX6.out.lt);have HBW:=Hq hb6;clear hb6;go_wp2;refine hK3 _ _ (by exact HBW.out) ?_;clear hK3;intro hS_14_3 hD;refine wpAnyK_oneT (i:=4) (fuel:=0) (by kernel_rfl) rfl hD (by kernel_rfl) ?_;clear hD;intro K4 hK4;rw[←blks_succ];obtain⟨Y,hY⟩:∃ Y,blks st0 (i+1) P=Y:=⟨_,rfl⟩;have HY:=Hq hY;rw[hY];clear hY;refine wpList_store_rowTo rfl 122 _ _ rfl rfl X Y.arr rfl rfl 122 _ HX6.out (by kernel_rfl) (by kernel_rfl) (W8.arr_one _) ?_;obtain⟨w7,hw7⟩:∃ w7,w6.setRow X Y.arr=w7:=⟨_,rfl⟩;have HX7:=Hq (show RowS w7 X Y from hw7▸setRow_heap _ _ _ _ _ _ HX6.out);have HB7:=Hq (show Below X w6 w7 from hw7▸below_setRow blr nlr _);have HS7:=Hq (show X<w7.heap.size from HX7.out.lt);rw[hw7];clear hw7;go_wp2;refine hK4 _ _ ?_;clear hK4;intro hD;refine wpD ?_;clear hD;go_wp2;refine⟨?_,?_⟩
          · have hby7:=HBY6.out.keptB HB7.out hHX;have hfr:=hby7.from 64 hr64;rw[List.drop_drop]at hfr;have hxi:RowS w7 X (blks st0 (i+1) P):=by rw[HY.out];exact HX7.out
            have hbi:Below H w w7:=HB6.out.trans (HB7.out.mono (by omega));have hl1:Ln - 64 * (i+1)=rem - 64:=by omega
            have hd1:64 * i+64=64 * (i+1):=by omega
            rw[hd1]at hfr;by_cases hc:c=64
            · rw[if_pos hc]at hfr⊢;exact⟨i+1,o,c - 64,by omega,by rw[hl1],by rw[hl1];exact hfr,hxi,hbi,HS7.out⟩
            · rw[if_neg hc]at hfr⊢;exact⟨i+1,o+64,c - 64,by omega,by rw[hl1],by rw[hl1];exact hfr,hxi,hbi,HS7.out⟩
          · simp[sliceLen];omega
        · have hr0:¬ (0:Int)<(rem:Int):=by omega
          obtain⟨F,hF⟩:∃ F,blks st0 i P=F:=⟨_,rfl⟩;have HF:=Hq (show r=bstr (F.ws.flatMap wo)from by
           rw[←HR.out,←hF];unfold shaL;rw[HPP.out,HLP.out,show Ln / 64=i from by omega])
          rw[hF]at HX;clear hF h0 HBY;obtain⟨G,hG⟩:∃ G,wr.heap.size=G:=⟨_,rfl⟩;have hHG:H<G:=by rw[←hG];omega
          go_wp2_with (refine wpList_load_row rfl 122 _ rfl X rfl 122 F.arr (0,0) _ HX.out Tryz.underlying122 rfl (by kernel_rfl) ?_)
          trace_state
          go_loopw [7,55] (fun v x wr=>∃ i:Nat,i≤8∧x=.int .i64 i∧wr.ownsRow G 5 1 v (4 * i) (Lib.byteCells ((F.ws.take i).flatMap wo))∧Below H w wr∧G≤wr.heap.size) (fun _ x _=>8 - (RowKit.intOf x).toNat);case atStart=>exact⟨0,by omega,rfl,World.ownsRow_nil _ _ _ _,HB.out,by omega⟩
          case round =>
           obtain⟨i2,hi2,rfl,hown,hb,hg⟩:=hrel;have HO:=Hq hown;have HB2:=Hq hb;clear hown hb;by_cases hlt:i2<8
           · have hi2i:(i2:Int)<8:=by omega
             have hidx:=fun w=>index_word F i2 hlt w;have HTK:=Hq (ws_take F i2 hlt);obtain⟨x,hx⟩:∃ x,F.at i2=x:=⟨_,rfl⟩;rw[hx]at hidx HTK;clear hx;have HWC:=Hq (word_cells x);go_wp2_with (at_builtin;refine wpList_append_word _ rfl (.tmp 58) (.tmp 70) rfl G (4 * i2) _ ((F.ws.take i2).flatMap wo) rfl (HO.out.alloc _) (by omega) wr.heap.size 4 x rfl (by rw[←HWC.out];exact heap_alloc_new _ _) (by simp;omega) ?_);intro v3 w8 ho8 hb8;have HO8:=Hq ho8;have HB8:=Hq (show Below H w w8 from(HB2.out.alloc (by omega) _).trans (hb8.mono (by omega)));have HG8:=Hq (show G≤w8.heap.size from by have:=hb8.size;simp at this;omega);clear ho8 hb8 hidx;go_wp2;go_roundw;case rel =>
              refine⟨i2+1,by omega,by go_num,?_,HB8.out,HG8.out⟩;rw[HTK.out];exact HO8.out
             case measure=>simp[RowKit.intOf];omega
           · obtain rfl:i2=8:=by omega
             obtain⟨A,c7,rfl,hby⟩:=own_bytes HO.out (show ((F.ws.take 8).flatMap wo).length=4 * 8 from by simp[W8.ws,wo]);have hconv:=hby.conv 108 9 5 Tryz.underlying108 Tryz.underlying5 Tryz.underlying9;have hw8:F.ws.take 8=F.ws:=rfl;rw[hw8,←HF.out]at hconv;clear hby hw8;go_wp2;go_ret;exact⟨rfl,by rw[hH];exact HB2.out⟩
def pb(m:List UInt8)(i:Nat):Nat→Nat
 | 0=>0
 | q+1=>pb m i q * 256+(m.getD (4 * i+q) 0).toNat
def wq(m:List UInt8)(i q:Nat)(j:Nat):BitVec 32:=if j=i then BitVec.ofNat 32 (pb m i q)else wz m i j
set_option maxRecDepth 100000
open Go.RowKit
theorem SlN.takeK{w:World}{A:Option Addr}{n c:Nat}{l:List ByteArray}(h:SlN w A n c l)(k:Nat)(hk:k≤n):SlN w A k c (l.take k):=by
 obtain⟨h1,h2,h3,b,o,h4,h5⟩:=h;refine⟨by rw[List.length_take];omega,by omega,h3,b,o,fun h=>h4 (by omega),fun j s hj=>?_⟩;rw[List.getElem?_take]at hj;split at hj
 · exact h5 j s hj
 · cases hj
theorem SlN.dropK{w:World}{b o n c:Nat}{l:List ByteArray}(h:SlN w (some ⟨b,o,none⟩) n c l)(k:Nat)(hk:k<n):SlN w (some ⟨b,o+k,none⟩) (n - k) (c - k) (l.drop k):=by
 obtain⟨h1,h2,h3,b',o',h4,h5⟩:=h;have:=h4 (by omega);simp only[Option.some.injEq,Addr.mk.injEq,and_true]at this;obtain⟨rfl,rfl⟩:=this;refine⟨by rw[List.length_drop];omega,by omega,by omega,b,o+k,fun _=>rfl,fun j s hj=>?_⟩;rw[List.getElem?_drop]at hj;have:=h5 (k+j) s hj;rw[show o+(k+j)=o+k+j from by omega]at this;exact this
theorem leaf_text(s:ByteArray):((⟨#[0]⟩:ByteArray)++s).data.toList=0::s.data.toList:=by simp[ByteArray.data_append]
theorem node_text(a b:ByteArray):((⟨#[1]⟩:ByteArray)++a++b).data.toList=1::(a.data.toList++b.data.toList):=by simp[ByteArray.data_append]
theorem m_leaf(s:ByteArray)(hs:s.size≤100000000)(w:World):Calls Tryz.prog 39 #[.string s] w (Ret (.string (leafH s)) w):=by
 have HS:=Hq (h_Sum (⟨#[0]⟩++s) (by rw[ByteArray.size_append];have : (⟨#[0]⟩:ByteArray).size=1:=rfl;omega) w);rw[leaf_text]at HS;go_enter Tryz.func39,Tryz.ntmps39;go_wp2_with fail;refine HS.out.mono ?_;rintro e w1 ⟨rfl,hb⟩;have HB:=Hq hb;clear hb;go_wp2;go_ret;exact⟨rfl,HB.out⟩
theorem m_node(a b:ByteArray)(ha:a.size≤100000000)(hb:b.size≤100000000)(w:World):Calls Tryz.prog 40 #[.string a,.string b] w (Ret (.string (nodeH a b)) w):=by
 have HS:=Hq (h_Sum (⟨#[1]⟩++a++b) (by rw[ByteArray.size_append,ByteArray.size_append];have : (⟨#[1]⟩:ByteArray).size=1:=rfl;omega) w);rw[node_text]at HS;go_enter Tryz.func40,Tryz.ntmps40;go_wp2_with fail;refine HS.out.mono ?_;rintro e w1 ⟨rfl,hb⟩;have HB:=Hq hb;clear hb;go_wp2;go_ret;exact⟨rfl,HB.out⟩
end Go.Proofs.YtfbmbledklbfgaaGreatDoor
