import Derived.Test.YtppbcopnfankcaaGreatQShE
import Derived.Lib.BufferWrite
set_option linter.unusedVariables false
set_option linter.unusedSimpArgs false
namespace Go.Proofs.YtppbcopnfankcaaGreat
open Go.RowKit Go.Lib
theorem zgg:(Tryz.prog.info? 5).map (fun i=>(i.zero,i.size,i.bytes))=some (some (.int .u8 0),1,1):=by kernel_rfl
theorem zrz(n c:Nat)(hn:n≤c)(hc:c≤281474976710656)(w:World):(Instr.makeSlice 130 (.int .i64 n) (.int .i64 c)).run Tryz.prog w=.ok (.slice (some ⟨w.heap.size,0,none⟩) n c) (w.alloc (.cells (madeCells #[.int .u8 0] c) 5)):=by
 obtain⟨i0,hi,hz0,hz1,hz2⟩:=info_parts zgg;have h:=run_make (P:=Tryz.prog) w 130 5 i0 (.int .u8 0) Tryz.underlying130 hi hz0 .i64 .i64 (n:Int) (c:Int) (by omega) (by omega) (by rw[hz2];omega) (by omega);rw[h,hz1,Int.toNat_natCast,Int.toNat_natCast,Nat.mul_one];rfl
def MsgAt(w:World)(g cap:Nat)(l:List UInt8):Prop:=w.ownsRow g 5 1 (.slice (some ⟨g,0,none⟩) l.length cap) l.length (Lib.byteCells l)
theorem MsgAt.kept{w w':World}{g cap:Nat}{l:List UInt8}(h:MsgAt w g cap l)(hb:Below w.heap.size w w'):MsgAt w' g cap l:=jp h hb nlr
theorem MsgAt.lt{w:World}{g cap:Nat}{l:List UInt8}(h:MsgAt w g cap l):g<w.heap.size:=(World.ownsRow.lt h g rfl).2
theorem MsgAt.room{w:World}{g cap:Nat}{l:List UInt8}(h:MsgAt w g cap l):l.length≤cap∧cap≤maxLen:=by
 rcases h.2 with⟨h,_⟩ | ⟨g',cap',cur,hv,_,_,h1,h2,_⟩
 · cases h
 · cases hv;exact⟨h1,h2⟩
theorem MsgAt.bytes{w:World}{g cap:Nat}{l:List UInt8}(h:MsgAt w g cap l):BytesAt w (some ⟨g,0,none⟩) l.length cap l:=by
 refine⟨rfl,h.room.1,by have:=h.room.2;unfold maxLen at this;omega,fun _=>⟨g,0,rfl,fun k hk=>?_⟩⟩;have:=World.ownsRow.cells h rfl k (.int .u8 (jv l k)) (by
  unfold Lib.byteCells jv;rw[List.getElem?_map,List.getElem?_eq_getElem hk,List.getD_eq_getElem?_getD,List.getElem?_eq_getElem hk]
  rfl)
 rwa[Addr.add_lit]at this
theorem copied(w:World)(s:ByteArray)(c:Nat)(hs:s.size≤c)(hc:c≤maxLen) :
 MsgAt ((w.alloc (.cells (madeCells #[.int .u8 0] c) 5)).setRow w.heap.size (((madeCells #[.int .u8 0] c).toList.take 0++Lib.byteCells s.data.toList++(madeCells #[.int .u8 0] c).toList.drop (0+s.size)).toArray)) w.heap.size c s.data.toList:=by
 have hl:s.data.toList.length=s.size:=Array.length_toList;refine⟨by simp[Lib.byteCells],.inr ⟨w.heap.size,c,_,rfl,Nat.le_refl _,setRow_heap _ _ _ _ _ _ (heap_alloc_new _ _),by omega,hc,?_,?_⟩⟩
 · simp[byteCells_length,hl,size_madeCells];omega
 · simp[byteCells_length]
theorem zlv(w:World)(A B:Array Value)(T:TypeId):Below w.heap.size w ((w.alloc (.cells A T)).setRow w.heap.size B):=below_setRow ((blr).alloc nlr _) nlr _
theorem ki(w:World){ops:Array Oper}{rest:List Oper}{o:Oper}{a:Act}{Q:Exit→Act→World→Prop}(hg:o.guard=none)(s x:Operand)(hop:o.op=Op.call { callee:=Callee.builtin Builtin.append,args:=#[s,x],argTypes:=#[130,130] })
 (g cap k m:Nat) (xs ys:List UInt8) (hk:xs.length=k) (hl:ys.length=m) (hs:a.eval s=.slice (some ⟨g,0,none⟩) k cap) (hm:MsgAt w g cap xs) (B c:Nat) (hx:a.eval x=.slice (some ⟨B,0,none⟩) m c) {T:TypeId} {fr:Nat×Nat}
 (hB:w.heap[B]? =some (.cells (Lib.byteCells ys).toArray T fr)) (hr:k+m≤cap)
 (hK:∀ w',MsgAt w' g cap (xs++ys)→Below g w w'→wpList Tryz.prog ops Q rest (a.put o.dst (.slice (some ⟨g,0,none⟩) (k+m) cap)) w'):wpList Tryz.prog ops Q (o::rest) a w:=by
 subst hk hl;obtain⟨i0,hi,hz0,hz1,hz2⟩:=info_parts zgg;refine wpList_append_fits w hg s x 130 hop g 5 i0 1 Tryz.underlying130 hi hz1 g xs.length cap (Lib.byteCells xs) hs hm ⟨B,0,none⟩ ys.length c (Lib.byteCells ys) hx (by simp[Lib.byteCells]) (fun j u hj=>?_) (byteCells_one ys) hr (fun w' h1 h2=>hK w' ?_ ?_)
 · rw[Addr.add_lit,Nat.zero_add,Lib.cell_of_heap hB];simpa using hj
 · unfold MsgAt;rw[byteCells_append,List.length_append];exact h1
 · exact⟨h2.os,h2.tape,h2.output,h2.size,fun k hk=>h2.block k (by have:=hm.lt;omega) (by simp;omega)⟩
theorem zel{P:Program}(w:World){ops:Array Oper}{rest:List Oper}{o:Oper}{a:Act}{Q:Exit→Act→World→Prop}(hgd:o.guard=none)(d s:Operand)(t t':TypeId)
 (ho:o.op=.call { callee:=.builtin .copy,args:=#[d,s],argTypes:=#[t,t'] }) (v u:Value) (hd:a.eval d=v) (hs:a.eval s=u) {v':Value} {w':World}
 (hr:(Builtin.copy_ #[t,t'] o.type #[v,u]).run P w=.ok v' w') (h:wpList P ops Q rest (a.put o.dst v') w'):wpList P ops Q (o::rest) a w:=by
 refine wpList_plain hgd fun K hK=>?_;unfold Oper.wp;simp[execOp,ho,resolve,invoke,builtin,hd,hs,hr,Result.andThen];exact hK _ _ h
theorem zu7(w:World)(s:ByteArray)(n c:Nat)(hs:s.size=n)(hc:n≤c)(ty:TypeId) :
 (Builtin.copy_ #[130,9] ty #[.slice (some ⟨w.heap.size,0,none⟩) n c,.string s]).run Tryz.prog (w.alloc (.cells (madeCells #[.int .u8 0] c) 5)) =
  .ok (goInt n) ((w.alloc (.cells (madeCells #[.int .u8 0] c) 5)).setRow w.heap.size (((madeCells #[.int .u8 0] c).toList.take 0++Lib.byteCells s.data.toList++(madeCells #[.int .u8 0] c).toList.drop (0+s.size)).toArray)):=by
 subst hs;exact run_copy_row_string _ _ _ _ 5 _ _ _ _ _ _ _ Tryz.underlying130 (by kernel_rfl) (heap_alloc_new _ _) nlr (by rw[size_madeCells];omega)
theorem zld{P:Program}{op:Oper}{ρ:Operand→Value}{w:World}(ty:TypeId)(x:Operand)(ho:op.op=.load ty x)(g:Nat)(hx:ρ x=.pointer (some ⟨g,0,none⟩)){t:TypeId}{cs:Array Value}{fr:Nat×Nat}(d:TypeDesc)
 (hg:w.heap[g]? =some (.cells cs t fr)) (hu:P.underlying ty=some d) (hd:(match d with | .struct _ | .array _ _=>true | _=>false)=true) (hi:(P.info? ty).map (·.size)=some cs.size) :
 (execOp ρ op).run P w=.ok (.value (.agg cs)) w:=by
 unfold execOp;simp only[ho,hx,Instr.loadAt,Instr.sureAddr,Sem.run_bind,Sem.run_pure,Result.andThen_ok,run_loadVar_row w g t ty cs fr d hg hu hd hi]
theorem BytesAt.front{w:World}{A:Option Addr}{n c:Nat}{l:List UInt8}(h:BytesAt w A n c l)(k:Nat)(hk:k≤n):BytesAt w A k c (l.take k):=by
 obtain⟨h1,h2,h3,h4⟩:=h;refine⟨by simp[h1];omega,by omega,h3,fun hp=>?_⟩;obtain⟨b,o,e,hc⟩:=h4 (by omega);refine⟨b,o,e,fun j hj=>?_⟩;rw[hc j (by omega)];unfold jv;rw[List.getD_eq_getElem?_getD,List.getD_eq_getElem?_getD,List.getElem?_take,if_pos hj]
theorem BytesAt.keptB{w w':World}{b o n c B:Nat}{l:List UInt8}(h:BytesAt w (some ⟨b,o,none⟩) n c l)(hb:Below B w w')(hB:b<B):BytesAt w' (some ⟨b,o,none⟩) n c l:=by
 obtain⟨h1,h2,h3,h4⟩:=h;refine⟨h1,h2,h3,fun hp=>?_⟩;obtain⟨b',o',e,hc⟩:=h4 hp;cases e;exact⟨b,o,rfl,fun k hk=>(hb.cell (p:=⟨b,o+k,none⟩) hB).trans (hc k hk)⟩
theorem zkx{w:World}{base n:Nat}{v:Value}{l:List UInt8}(h:w.ownsRow base 5 1 v n (Lib.byteCells l))(hl:l.length=n):∃ A c,v=.slice A n c∧BytesAt w A n c l:=by
 rcases h.2 with⟨hv,hx⟩ | ⟨g,cap,cur,hv,hb,hg,h1,h2,h3,h4⟩
 · have h0:l=[]:=List.length_eq_zero_iff.1 (hl.trans hx);subst h0;subst hx;exact⟨none,0,hv,rfl,Nat.le_refl _,by omega,fun h=>by omega⟩
 · have hm:maxLen=9223372036854775807:=rfl;refine⟨some ⟨g,0,none⟩,cap,hv,hl,h1,by omega,fun _=>⟨g,0,rfl,fun k hk=>?_⟩⟩;have:=World.ownsRow.cells h (g:=g) (by rw[hv];rfl) k (.int .u8 (jv l k)) (by
    unfold Lib.byteCells jv;rw[List.getElem?_map,List.getElem?_eq_getElem (by omega),List.getD_eq_getElem?_getD,List.getElem?_eq_getElem (by omega)]
    rfl)
   rwa[Addr.add_lit]at this
theorem zhd(x:BitVec 32):(#[Value.int .u8 (wi x / 16777216%256),Value.int .u8 (wi x / 65536%256),Value.int .u8 (wi x / 256%256),Value.int .u8 (wi x%256)]:Array Value)=(Lib.byteCells (wo x)).toArray:=by
 have e:∀ n:Nat,((UInt8.ofNat n).toNat:Int)=(n:Int)%256:=fun n=>by rw[UInt8.toNat_ofNat'];simp
 unfold wo Lib.byteCells wi;simp only[List.map_cons,List.map_nil,e];simp
theorem q5(w:World){ops:Array Oper}{rest:List Oper}{o:Oper}{a:Act}{Q:Exit→Act→World→Prop}(hg:o.guard=none)(s x:Operand)(hop:o.op=Op.call { callee:=Callee.builtin Builtin.append,args:=#[s,x],argTypes:=#[130,130] })
 (base n:Nat) (v:Value) (xs:List UInt8) (hs:a.eval s=v) (hm:w.ownsRow base 5 1 v n (Lib.byteCells xs)) (hn:n≤1000) (B c:Nat) (y:BitVec 32) (hx:a.eval x=.slice (some ⟨B,0,none⟩) 4 c) {T:TypeId} {fr:Nat×Nat}
 (hB:w.heap[B]? =some (.cells (Lib.byteCells (wo y)).toArray T fr)) (hbase:base≤w.heap.size)
 (hK:∀ v' w',w'.ownsRow base 5 1 v' (n+4) (Lib.byteCells (xs++wo y))→Below base w w'→wpList Tryz.prog ops Q rest (a.put o.dst v') w'):wpList Tryz.prog ops Q (o::rest) a w:=by
 obtain⟨i0,hi,hz0,hz1,hz2⟩:=info_parts zgg;have hml:maxLen=9223372036854775807:=rfl;refine wpList_append_lies w hg s x 130 hop base 5 i0 (.int .u8 0) 1 1 Tryz.underlying130 hi hz0 hz1 hz2 rfl (by decide) v n (Lib.byteCells xs) hs hm ⟨B,0,none⟩ 4 c (Lib.byteCells (wo y)) hx rfl (fun j u hj=>?_) (byteCells_one _) (by decide) (by omega) (by omega) hbase _ rfl (fun g cap w' h1 h2 h3 h4=>hK _ w' ?_ ?_)
 · rw[Addr.add_lit,Nat.zero_add,Lib.cell_of_heap hB];simpa using hj
 · rw[byteCells_append];exact h1
 · exact⟨h2.os,h2.tape,h2.output,h2.size,fun k hk=>h2.block k (by omega) (fun e=>by have:=(hm.lt k e.symm).1;omega)⟩
theorem zpx(s:W8)(i:Nat)(h:i<8)(w:World):(Instr.index 133 (.agg s.arr) (.int .i64 (i:Int))).run Tryz.prog w=.ok (.int .u32 (wi (s.at i))) w:=by
 match i,h with
 | 0,_=>show _=_;kernel_rfl
 | 1,_=>show _=_;kernel_rfl
 | 2,_=>show _=_;kernel_rfl
 | 3,_=>show _=_;kernel_rfl
 | 4,_=>show _=_;kernel_rfl
 | 5,_=>show _=_;kernel_rfl
 | 6,_=>show _=_;kernel_rfl
 | 7,_=>show _=_;kernel_rfl
theorem zqk(s:W8)(i:Nat)(h:i<8):(s.ws.take (i+1)).flatMap wo=(s.ws.take i).flatMap wo++wo (s.at i):=by
 have hl:i<s.ws.length:=h;rw[List.take_add_one,List.flatMap_append,List.getElem?_eq_getElem hl];unfold W8.at;rw[List.getD_eq_getElem?_getD,List.getElem?_eq_getElem hl];simp
set_option maxRecDepth 100000
set_option maxHeartbeats 2000000
theorem znd(N:Nat){q:Nat}(h:q<8):(shE8 N).take (q+1)=(shE8 N).take q++[UInt8.ofNat (N / 2 ^ (56 - 8 * q))]:=by
 match q,h with
 | 0,_=>rfl
 | 1,_=>rfl
 | 2,_=>rfl
 | 3,_=>rfl
 | 4,_=>rfl
 | 5,_=>rfl
 | 6,_=>rfl
 | 7,_=>show shE8 N=_;unfold shE8;simp
theorem zva(n sh:Nat):(#[Value.int .u8 ((n:Int) * 8 / 2 ^ sh%256)]:Array Value)=(Lib.byteCells [UInt8.ofNat (n * 8 / 2 ^ sh)]).toArray:=by
 have : ((n:Int) * 8 / 2 ^ sh%256)=((n * 8 / 2 ^ sh%256:Nat):Int):=by simp
 rw[this];simp[Lib.byteCells,UInt8.toNat_ofNat']
theorem zp0(s:ByteArray)(hs:s.size≤1000000000000)(w:World):Calls Tryz.prog 43 #[.string s] w (Ret (.string (bstr (shaL s.data.toList))) w):=by
 obtain⟨n,hn⟩:=nm (s.size);obtain⟨l,hl⟩:=nm (s.data.toList);have hll:l.length=n:=by rw[←hl,←hn];exact Array.length_toList
 obtain⟨r,hr⟩:=nm (bstr (shaL l));have HR:=Hq hr;have HL:=Hq hll;have hmk:=zrz n (n+72) (by omega) (by omega) w;simp only[Int.natCast_add,Int.cast_ofNat_Int]at hmk;have HCR:=Hq (zu7 w s n (n+72) hn (by omega) 3);have HM1:=Hq (copied w s (n+72) (by omega) (by unfold maxLen;omega));rw[hl]at HCR HM1⊢;rw[hr];obtain⟨w1,hw1⟩:=nm ((w.alloc (.cells (madeCells #[.int .u8 0] (n+72)) 5)).setRow w.heap.size (((madeCells #[.int .u8 0] (n+72)).toList.take 0++Lib.byteCells l++(madeCells #[.int .u8 0] (n+72)).toList.drop (0+s.size)).toArray));have HB1:=Hq (show Below w.heap.size w w1 from hw1▸zlv _ _ _ _);rw[hw1]at HCR HM1;clear hw1 hr hl hll;rw[hn]at hs;have hsi:(n:Int)≤1000000000000:=by omega
 clear hs;go_enter Tryz.func43,Tryz.ntmps43;go_wp2_with (first
  | refine zel _ rfl (.tmp 16) (.tmp 17) 130 9 rfl _ _ rfl rfl HCR.out ?_
  | (at_builtin;refine ki _ rfl (.tmp 19) (.tmp 20) rfl w.heap.size (n+72) n 1 l [128] HL.out rfl rfl (HM1.out.kept ((blr).alloc nlr _)) w1.heap.size 1 rfl (heap_alloc_new _ _) (by omega) ?_))
 intro w2 hm2 hb2;obtain⟨H,hH⟩:=nm (w.heap.size);rw[hH]at HB1 HM1 hm2 hb2⊢;have HM2:=Hq hm2;have HB2:=Hq (show Below H w w2 from(HB1.out.alloc (by rw[←hH];exact HB1.out.size) _).trans hb2);clear hm2 hb2 HM1 HB1 HCR hmk;have HZ:=Hq (show zs n=(119 - n%64)%64 from rfl);go_wp2;go_loopw [3] (fun v wr=>∃ k:Nat,k≤zs n∧v=.slice (some ⟨H,0,none⟩) (n+1+k) (n+72)∧MsgAt wr H (n+72) (l++[128]++List.replicate k 0)∧Below H w wr) (fun v _=>n+100 - za2 v);case atStart=>exact⟨0,Nat.zero_le _,rfl,by simpa using HM2.out,HB2.out⟩
 case round =>
  obtain⟨k,hk,rfl,hm,hb⟩:=hrel;have HM:=Hq hm;have HB:=Hq hb;clear hm hb;obtain⟨j,hj⟩:=nm (n+1+k);have HJ:=Hq hj;rw[hj];have HLEN:=Hq (show (l++[128]++List.replicate k 0).length=j from by simp[HL.out];omega);by_cases hlt:k<zs n
  · have hne:¬ ((j:Int)%64=56):=by have:=HZ.out;omega
    have hj72:j+1≤n+72:=by have:=HZ.out;omega
    clear hj hk;go_wp2_with (at_builtin;refine ki _ rfl (.tmp 26) (.tmp 27) rfl H (n+72) j 1 (l++[128]++List.replicate k 0) [0] HLEN.out rfl rfl (HM.out.kept ((blr).alloc nlr _)) wr.heap.size 1 rfl (heap_alloc_new _ _) hj72 ?_);intro w3 hm3 hb3;have HM3:=Hq hm3;have HB3:=Hq (show Below H w w3 from(HB.out.alloc (by have:=HM.out.lt;omega) _).trans hb3);clear hm3 hb3 hj72 hne;go_wp2;go_roundw;case rel =>
     refine⟨k+1,by omega,by have:=HJ.out;rw[←this];rfl,?_,HB3.out⟩;rw[List.replicate_succ',←List.append_assoc];simpa using HM3.out
    case measure=>have:=HJ.out;have:=HZ.out;simp[za2];omega
  · have he:(j:Int)%64=56:=by have:=HZ.out;omega
    have HKZ:=Hq (show k=zs n from by omega);have HMZ:=Hq (show MsgAt wr H (n+72) (l++[128]++List.replicate (zs n) 0)from by rw[←HKZ.out];exact HM.out);obtain⟨M,hM⟩:=nm (l++[128]++List.replicate (zs n) 0);rw[hM]at HMZ;have HLM:=Hq (show M.length=j from by rw[←hM,←HKZ.out];exact HLEN.out);have hj64:=Hq (show j+8≤n+72 from by have:=HZ.out;omega);have HMM:=Hq hM;clear hM HM hk hlt hj HLEN HJ;go_wp2;clear he;go_loopw [3,5] (fun v i wr=>∃ q:Nat,q≤8∧v=.slice (some ⟨H,0,none⟩) (j+q) (n+72)∧i=.int .i64 (56 - 8 * (q:Int))∧MsgAt wr H (n+72) (M++(shE8 (n * 8)).take q)∧Below H w wr) (fun v _ _=>n+100 - za2 v);case atStart=>exact⟨0,Nat.zero_le _,rfl,rfl,by simpa using HMZ.out,HB.out⟩
    case round =>
     obtain⟨q,hq,rfl,rfl,hm,hb⟩:=hrel;have HM:=Hq hm;have HB:=Hq hb;clear hm hb;by_cases hlt:q<8
     · obtain⟨sh,hsh⟩:=nm (56 - 8 * q);have hshi:(56:Int) - 8 * (q:Int)=(sh:Int):=by omega
       have hsh64:(sh:Int)<64:=by omega
       have HV:=Hq (zva n sh);have HTK:=Hq (znd (n * 8) hlt);rw[hsh]at HTK;have HLQ:=Hq (show (M++(shE8 (n * 8)).take q).length=j+q from by rw[List.length_append,HLM.out,List.length_take];simp[shE8];omega);have hfit:j+q+1≤n+72:=by have:=hj64.out;omega
       clear hsh;go_wp2_with (at_builtin;refine ki _ rfl (.tmp 37) (.tmp 42) rfl H (n+72) (j+q) 1 (M++(shE8 (n * 8)).take q) [UInt8.ofNat (n * 8 / 2 ^ sh)] HLQ.out rfl rfl (HM.out.kept ((blr).alloc nlr _)) wr.heap.size 1 rfl (by rw[←HV.out];exact heap_alloc_new _ _) hfit ?_);intro w3 hm3 hb3;have HM3:=Hq hm3;have HB3:=Hq (show Below H w w3 from(HB.out.alloc (by have:=HM.out.lt;omega) _).trans hb3);clear hm3 hb3 hfit;have hsub:(sh:Int) - 8=56 - 8 * ((q+1:Nat):Int):=by omega
       go_wp2;go_roundw;case rel =>
        refine⟨q+1,by omega,rfl,?_,?_,HB3.out⟩
        · simp
        · rw[HTK.out];exact HM3.out
       case measure=>have:=hj64.out;simp[za2];omega
     · have HQ:=Hq (show q=8 from by omega);have hge:¬ ((0:Int)≤56 - 8 * (q:Int)):=by omega
       obtain⟨Ln,hLn⟩:=nm (j+q);have HP:=Hq (show MsgAt wr H (n+72) (padL l)from by
        have h:=HM.out;rw[HQ.out,←HMM.out]at h;unfold padL;rw[HL.out]
        exact h)
       have HLP:=Hq (show (padL l).length=Ln from by rw[zca,←hLn,HQ.out];have h1:=HLM.out;rw[←HMM.out]at h1;simp[HL.out]at h1⊢;omega);have HMOD:=Hq (show Ln%64=0 from by rw[←HLP.out];exact znl l);rw[hLn];clear hLn HM hq hlt HMZ HLM HMM;go_wp2_with fail;refine(zxh _).mono ?_;rintro e w4 ⟨rfl,hb4⟩;dsimp only;have HB4:=Hq (show Below H w w4 from HB.out.trans (hb4.mono (by have:=HP.out.lt;omega)));have HP4:=Hq (HP.out.kept hb4);clear hb4 HB HP;obtain⟨X,hX⟩:=nm (w4.heap.size);have hHX:H<X:=by rw[←hX];exact HP4.out.lt
       go_step;refine Great.wpList_allocTo rfl _ rfl (.pointer (some ⟨X,0,none⟩)) (.cells z8 133) (by rw[←hX];kernel_rfl) ?_;refine wpList_store_rowTo rfl 133 _ _ rfl rfl X st0.arr (by kernel_rfl) (by kernel_rfl) 133 z8 (by rw[←hX];exact heap_alloc_new _ _) (by kernel_rfl) (by kernel_rfl) (W8.arr_one _) ?_;rw[←hX,World.setRow_alloc_new];obtain⟨w5,hw5⟩:=nm (w4.alloc (.cells st0.arr 133));have hb5:Below X w4 w5:=hX▸hw5▸(blr).alloc nlr _;have HX5:=Hq (show RowS w5 X st0 from by rw[←hw5,←hX];exact heap_alloc_new _ _);have HB5:=Hq (show Below H w w5 from HB4.out.trans (hb5.mono (by omega)));have HP5:=Hq (HP4.out.kept (hX▸hb5));rw[hw5,hX];clear hw5 hb5 HB4 HP4;obtain⟨P,hP⟩:=nm (padL l);have HPP:=Hq hP;rw[hP]at HLP HP5;clear hP;go_wp2;simp only[Act.put,sqA,sqB,sqC];go_loopw [3] (fun v wr=>∃ i o c:Nat,64 * i≤Ln∧v=.slice (some ⟨H,o,none⟩) (Ln - 64 * i) c∧BytesAt wr (some ⟨H,o,none⟩) (Ln - 64 * i) c (P.drop (64 * i))∧RowS wr X (blks st0 i P)∧Below H w wr∧X<wr.heap.size) (fun v _=>za2 v);case atStart=>exact⟨0,0,n+72,Nat.zero_le _,rfl,by have:=HP5.out.bytes;rw[HLP.out]at this;exact this,HX5.out,HB5.out,HX5.out.lt⟩
       case round =>
        obtain⟨i,o,c,hi,rfl,hby,hx,hb,hxs⟩:=hrel
        have HBY:=Hq hby
        have HX:=Hq hx;have HB:=Hq hb;clear hby hx hb;obtain⟨rem,hrem⟩:=nm (Ln - 64 * i);rw[hrem]at HBY⊢;by_cases h0:0<rem
        · have hr64:64≤rem:=by have:=HMOD.out;omega
          have hri:0<(rem:Int):=by omega
          have hc64:64≤c:=by have:=HBY.out.2.1;omega
          have hc64i:(64:Int)≤(c:Int):=by omega
          have hr64i:(64:Int)≤(rem:Int):=by omega
          have HLD:=Hq (show ∀ w',Below wr.drew.heap.size wr.drew w'→RowS w' X (blks st0 i P)from fun w' hb=>(show RowS wr.drew X (blks st0 i P)from HX.out).kept hb hxs);go_wp2
          trace_state
          refine za 4 (Below (wr.drew).heap.size (wr.drew)) (by kernel_rfl) ?_;intro hD;refine zbh (i:=0) (d:=some 50) (v:=(.agg (blks st0 i P).arr)) (fuel:=4) rfl (by kernel_rfl) (by kernel_rfl) (by kernel_rfl) (fun _ _ _ h=>h) hD blr (.inl ⟨by kernel_rfl,?y14_0b1⟩) ?n14_0b1;case y14_0b1 =>
           intro w' hS';exact zld 133 _ rfl X rfl _ (HLD.out _ hS') Tryz.underlying133 rfl (by kernel_rfl)
          simp only[Act.put,sqA,sqB,sqC];refine qPDs 1 51 3 blr ?_;refine qPDs 2 52 2 blr ?_;refine rO 3 1 ?_;intro K3 hK3;go_wp2_with fail;refine(zxi (blks st0 i P) ((P.drop (64 * i)).take 64) H o c _ ((show BytesAt wr.drew _ _ _ _ from HBY.out).front 64 hr64)).mono ?_;rintro e w6 ⟨rfl,hb6⟩;have HX6:=Hq (show RowS w6 X (blks st0 i P)from(show RowS wr.drew X (blks st0 i P)from HX.out).kept hb6 hxs);have HBY6:=Hq ((show BytesAt wr.drew _ _ _ _ from HBY.out).kept hb6);have HB6:=Hq (show Below H w w6 from HB.out.drew.trans (hb6.mono (by show H≤wr.heap.size;omega)));have HS6:=Hq (show X<w6.heap.size from HX6.out.lt);have HBW:=Hq hb6;clear hb6;go_wp2;refine hK3 _ _ (by exact HBW.out) ?_;clear hK3;intro hS_14_3;refine oT 4 0 ?_;intro K4 hK4;rw[←zl0];obtain⟨Y,hY⟩:=nm (blks st0 (i+1) P);have HY:=Hq hY;rw[hY];clear hY;refine wpList_store_rowTo rfl 133 _ _ rfl rfl X Y.arr rfl rfl 133 _ HX6.out (by kernel_rfl) (by kernel_rfl) (W8.arr_one _) ?_;obtain⟨w7,hw7⟩:=nm (w6.setRow X Y.arr);have HX7:=Hq (show RowS w7 X Y from hw7▸setRow_heap _ _ _ _ _ _ HX6.out);have HB7:=Hq (show Below X w6 w7 from hw7▸below_setRow blr nlr _);have HS7:=Hq (show X<w7.heap.size from HX7.out.lt);rw[hw7];clear hw7;go_wp2;refine hK4 _ _ ?_;clear hK4;refine wDn ?_;go_wp2;refine⟨?_,?_⟩
          · have hby7:=HBY6.out.keptB HB7.out hHX;have hfr:=hby7.from 64 hr64;rw[List.drop_drop]at hfr;have hxi:RowS w7 X (blks st0 (i+1) P):=by rw[HY.out];exact HX7.out
            have hbi:Below H w w7:=HB6.out.trans (HB7.out.mono (by omega));have hl1:Ln - 64 * (i+1)=rem - 64:=by omega
            have hd1:64 * i+64=64 * (i+1):=by omega
            rw[hd1]at hfr;by_cases hc:c=64
            · rw[if_pos hc]at hfr⊢;exact⟨i+1,o,c - 64,by omega,by rw[hl1],by rw[hl1];exact hfr,hxi,hbi,HS7.out⟩
            · rw[if_neg hc]at hfr⊢;exact⟨i+1,o+64,c - 64,by omega,by rw[hl1],by rw[hl1];exact hfr,hxi,hbi,HS7.out⟩
          · simp[za2];omega
        · have hr0:¬ (0:Int)<(rem:Int):=by omega
          obtain⟨F,hF⟩:=nm (blks st0 i P);have HF:=Hq (show r=bstr (F.ws.flatMap wo)from by
           rw[←HR.out,←hF];unfold shaL;rw[HPP.out,HLP.out,show Ln / 64=i from by omega])
          rw[hF]at HX;clear hF h0 HBY;obtain⟨G,hG⟩:=nm (wr.heap.size);have hHG:H<G:=by rw[←hG];omega
          go_wp2_with (refine wpList_load_row rfl 133 _ rfl X rfl 133 F.arr (0,0) _ HX.out Tryz.underlying133 rfl (by kernel_rfl) ?_)
          trace_state
          go_loopw [7,55] (fun v x wr=>∃ i:Nat,i≤8∧x=.int .i64 i∧wr.ownsRow G 5 1 v (4 * i) (Lib.byteCells ((F.ws.take i).flatMap wo))∧Below H w wr∧G≤wr.heap.size) (fun _ x _=>8 - (RowKit.intOf x).toNat);case atStart=>exact⟨0,by omega,rfl,World.ownsRow_nil _ _ _ _,HB.out,by omega⟩
          case round =>
           obtain⟨i2,hi2,rfl,hown,hb,hg⟩:=hrel;have HO:=Hq hown;have HB2:=Hq hb;clear hown hb;by_cases hlt:i2<8
           · have hi2i:(i2:Int)<8:=by omega
             have hidx:=fun w=>zpx F i2 hlt w;have HTK:=Hq (zqk F i2 hlt);obtain⟨x,hx⟩:=nm (F.at i2);rw[hx]at hidx HTK;clear hx;have HWC:=Hq (zhd x);go_wp2_with (at_builtin;refine q5 _ rfl (.tmp 58) (.tmp 70) rfl G (4 * i2) _ ((F.ws.take i2).flatMap wo) rfl (HO.out.alloc _) (by omega) wr.heap.size 4 x rfl (by rw[←HWC.out];exact heap_alloc_new _ _) (by simp;omega) ?_);intro v3 w8 ho8 hb8;have HO8:=Hq ho8;have HB8:=Hq (show Below H w w8 from(HB2.out.alloc (by omega) _).trans (hb8.mono (by omega)));have HG8:=Hq (show G≤w8.heap.size from by have:=hb8.size;simp at this;omega);clear ho8 hb8 hidx;go_wp2;go_roundw;case rel =>
              refine⟨i2+1,by omega,by go_num,?_,HB8.out,HG8.out⟩;rw[HTK.out];exact HO8.out
             case measure=>simp[RowKit.intOf];omega
           · obtain rfl:i2=8:=by omega
             obtain⟨A,c7,rfl,hby⟩:=zkx HO.out (show ((F.ws.take 8).flatMap wo).length=4 * 8 from by simp[W8.ws,wo]);have hconv:=hby.conv 130 9 5 Tryz.underlying130 Tryz.underlying5 Tryz.underlying9;have hw8:F.ws.take 8=F.ws:=rfl;rw[hw8,←HF.out]at hconv;clear hby hw8;go_wp2;go_ret;exact⟨rfl,by rw[hH];exact HB2.out⟩
set_option maxRecDepth 100000
set_option maxHeartbeats 2000000
theorem zwb(n k:Nat):IntKind.u8.wrap ((n:Int) / 2 ^ k)=((UInt8.ofNat (n / 2 ^ k)).toNat:Int):=by
 have h:IntKind.u8.wrap ((n:Int) / 2 ^ k)=((n:Int) / 2 ^ k)%256:=rfl;have : ((n:Int) / 2 ^ k%256)=((n / 2 ^ k%256:Nat):Int):=by simp
 rw[h,this];simp[UInt8.toNat_ofNat']
theorem zc1(B b:Nat)(bs:List Value)(n:Nat)(hn:n≤4611686018427387904)(w:World)(h:IsBuilder 211 5 B b bs w)(hlen:bs.length≤1000000000000)(hBw:B≤w.heap.size) :
 Calls Tryz.prog 170 #[.pointer (some ⟨b,0,none⟩),.int .i64 n] w fun e w'=>e=.returned (.tuple #[])∧(IsBuilder 211 5 B b (bs++Lib.byteCells (shE8 n)) w'∧Below B w w'∧KeepS w w'):=by
 have HI:=Hq h;clear h;go_enter Tryz.func170,Tryz.ntmps170;go_wp2;go_loopw [4] (fun i wr=>∃ q:Nat,q≤8∧i=.int .i64 (56 - 8 * (q:Int))∧IsBuilder 211 5 B b (bs++Lib.byteCells ((shE8 n).take q)) wr∧Below B w wr∧B≤wr.heap.size∧KeepS w wr) (fun i _=>(RowKit.intOf i+8).toNat);case atStart=>exact⟨0,Nat.zero_le _,rfl,by simpa[Lib.byteCells]using HI.out,Below.refl _ _,hBw,KeepS.refl _⟩
 case round =>
  obtain⟨q,hq,rfl,hib,hb,hz,hks⟩:=hrel;have HKS:=Hq hks;clear hks;have HIB:=Hq hib;have HB:=Hq hb;clear hib hb;by_cases hlt:q<8
  · obtain⟨sh,hsh⟩:=nm (56 - 8 * q);have hshi:(56:Int) - 8 * (q:Int)=(sh:Int):=by omega
    have hsh64:(sh:Int)<64:=by omega
    have hge:(0:Int)≤(sh:Int):=by omega
    have HTK:=Hq (znd n hlt);rw[hsh]at HTK;rw[hshi];have HSI:=Hq hshi;have HQ:=Hq hlt;have HLQ:=Hq (show ((shE8 n).take q).length≤8 from by rw[List.length_take];simp[shE8];omega);clear hsh hshi hlt hq;go_wp2;obtain⟨wd,hwd⟩:=nm (wr.drew);have HID:=Hq (show IsBuilder 211 5 B b (bs++Lib.byteCells ((shE8 n).take q)) wd from by rw[←hwd];exact zjn HIB.out);have HBD:=Hq (show Below B w wd from by rw[←hwd];exact HB.out.drew);have hzd:B≤wd.heap.size:=by rw[←hwd];exact hz
    have HZD:=Hq hzd;clear hz hzd;refine za 8 (fun _=>True) (by kernel_rfl) ?_;rw[hwd];refine rPs 0 9 7 trivial ?_;refine rPs 1 10 6 trivial ?_;refine rPs 2 11 5 trivial ?_;refine rPs 3 12 4 trivial ?_;refine rPs 4 13 3 trivial ?_;refine rPs 5 14 2 trivial ?_;refine rPs 6 15 1 trivial ?_;refine rO 7 0 ?_;intro K7 hK7;rw[zwb];go_wp2_with fail;refine(za8 B b _ _ _ HID.out (by have:=HLQ.out;rw[List.length_append,byteCells_length];omega) HZD.out).mono ?_;rintro e w3 ⟨rfl,hi3,hb3,hk3⟩;have HK3:=Hq (show KeepS w w3 from(HKS.out.trans (by rw[←hwd];exact KeepS.below (blr).drew)).trans hk3);have HI3:=Hq hi3;have HB3:=Hq (HBD.out.trans hb3);have HZ3:=Hq (Nat.le_trans HZD.out hb3.size);clear hi3 hb3 hk3;go_wp2;refine hK7 _ _ (by trivial) ?_;clear hK7;intro hS_3_7;refine wDn ?_;have hsub:(sh:Int) - 8=56 - 8 * ((q+1:Nat):Int):=by have:=HSI.out;omega
    go_wp2;go_roundw;case rel =>
     refine⟨q+1,HQ.out,rfl,?_,HB3.out,HZ3.out,HK3.out⟩;rw[HTK.out,byteCells_append,←List.append_assoc];exact HI3.out
    case measure=>have:=HSI.out;simp[RowKit.intOf];omega
  · have HQ:=Hq (show q=8 from by omega);have hge:¬ ((0:Int)≤56 - 8 * (q:Int)):=by omega
    clear hq hlt;go_wp2;go_end0;refine⟨rfl,?_,HB.out,HKS.out⟩;have h8:(shE8 n).take q=shE8 n:=by rw[HQ.out];rfl
    rw[←h8];exact HIB.out
set_option maxRecDepth 100000
set_option maxHeartbeats 4000000
def SlS(w:World)(A:Option Addr)(n c:Nat)(l:List ByteArray):Prop:=
 SlN w A n c l∧(A=none→c=0)∧∀ b o,A=some ⟨b,o,none⟩→∃ cs fr,w.heap[b]? =some (.cells cs 9 fr)
theorem SlS.kept{w w':World}{A:Option Addr}{n c:Nat}{l:List ByteArray}(h:SlS w A n c l)(hb:Below w.heap.size w w'):SlS w' A n c l:=
 ⟨h.1.kept hb nlr,h.2.1,fun b o e=>by obtain⟨cs,fr,hc⟩:=h.2.2 b o e;exact⟨cs,fr,(hb.block b (zn hc)).trans hc⟩⟩
theorem zqb{w w':World}{b k:Nat}{cs:Array Value}{fr:Nat×Nat}(hk:KeepS w w')(hc:w.heap[b]? =some (.cells cs 9 fr)):w'.cell? ⟨b,k,none⟩=w.cell? ⟨b,k,none⟩:=by
 unfold World.cell?;rw[hk b cs fr hc,hc]
theorem SlS.keptS{w w':World}{A:Option Addr}{n c:Nat}{l:List ByteArray}(h:SlS w A n c l)(hk:KeepS w w'):SlS w' A n c l:=by
 obtain⟨⟨h1,h2,h3,b,o,h4,h5⟩,h6,h7⟩:=h;refine⟨⟨h1,h2,h3,b,o,h4,fun k s hs=>?_⟩,h6,fun b o e=>by obtain⟨cs,fr,hc⟩:=h7 b o e;exact⟨cs,fr,hk _ _ _ hc⟩⟩;have hlt:k<l.length:=(List.getElem?_eq_some_iff.1 hs).1;obtain⟨cs,fr,hc⟩:=h7 b o (h4 (by omega));rw[zqb hk hc];exact h5 k s hs
theorem SlS.of_owns{w:World}{base:Nat}{v:Value}{n:Nat}{l:List ByteArray}(h:w.ownsRow base 9 1 v n (l.map Value.string)):∃ A cap,v=.slice A n cap∧SlS w A n cap l:=by
 obtain⟨hl,A,cap,rfl,hs⟩:=SlN.of_owns h;refine⟨A,cap,rfl,hs,fun e=>?_,fun b o e=>?_⟩
 · subst e;rcases h.2 with⟨hv,_⟩ | ⟨g,c,cur,hv,_⟩
   · cases hv;rfl
   · cases hv
 · subst e;rcases h.2 with⟨hv,_⟩ | ⟨g,c,cur,hv,_,hg,_⟩
   · cases hv
   · cases hv;exact⟨_,_,hg⟩
def dt(l:List ByteArray):List (List UInt8):=l.map fun s=>s.data.toList
theorem zmy(l:List ByteArray)(s:ByteArray):dt (l++[s])=dt l++[s.data.toList]:=by simp[dt]
theorem zbp(l:List ByteArray):(dt l).length=l.length:=by simp[dt]
theorem km{α:Type}{l:List α}{k:Nat}{y:α}(h:l[k]? =some y):l.take (k+1)=l.take k++[y]:=by
 obtain⟨h1,rfl⟩:=List.getElem?_eq_some_iff.1 h;exact List.take_succ_eq_append_getElem h1
theorem zd5:(Tryz.prog.info? 9).map (fun i=>(i.zero,i.size,i.bytes))=some (some (.string ⟨#[]⟩),1,16):=by kernel_rfl
theorem zkv{l:List ByteArray}{m:Nat}(h:∀ s∈l,s.size≤m)(k:Nat):(ptL (dt (l.take k))).length≤l.length * (8+m):=by
 rw[zph,zbp];have h1:((dt (l.take k)).map List.length).sum≤(dt (l.take k)).length * m:=zo5 fun s hs=>by
  obtain⟨x,hx,rfl⟩:=List.mem_map.1 hs;have:=h x (List.mem_of_mem_take hx);simpa[jb]using this
 rw[zbp]at h1;have h2:(l.take k).length≤l.length:=by rw[List.length_take];omega
 calc 8 * (l.take k).length+((dt (l.take k)).map List.length).sum≤8 * (l.take k).length+(l.take k).length * m:=Nat.add_le_add_left h1 _
  _=(l.take k).length * (8+m):=by rw[Nat.mul_add,Nat.mul_comm]
  _≤l.length * (8+m):=Nat.mul_le_mul_right _ h2
theorem zya(s:ByteArray)(w:World):Calls Tryz.prog 218 #[.string s] w fun e w'=>e=.returned (.string s)∧w=w':=by
 go_enter Tryz.func218,Tryz.ntmps218;go_wp2;go_ret;exact⟨rfl,rfl⟩
theorem zyb(s:ByteArray)(w:World):Calls Tryz.prog 169 #[.string s] w fun e w'=>e=.returned (.string s)∧w=w':=by
 go_enter Tryz.func169,Tryz.ntmps169;go_wp2;go_ret;exact⟨rfl,rfl⟩
theorem zn1{ρ:Operand→Value}{o:Oper}(x y z:Operand)(hop:o.op=Op.slice 63 x none (some y) (some z)){A:Option Addr}{N c:Nat}(hx:ρ x=.slice A N c)(hy:ρ y=.int .i64 (N:Int))(hz:ρ z=.int .i64 (N:Int))(h:N≤c)(w:World):Sem.run Tryz.prog (execOp ρ o) w=Result.ok (.value (.slice A N N)) w:=by
 obtain⟨i0,hi,hz0,hz1,hz2⟩:=info_parts zd5;have ht:Tryz.prog.underlying 63=some (.slice (Tryz.prog.elem 63)):=by rw[show Tryz.prog.elem 63=9 from by kernel_rfl];exact Tryz.underlying63
 have he:(if (N:Int).toNat=0 then A else A.map fun x=>x.add (0 * i0.size))=A:=by
  split
  · rfl
  · cases A with
    | none=>rfl
    | some a=>simp[Addr.add]
 have hs:=run_slice_hm (P:=Tryz.prog) w 63 A N c ht .i64 .i64 (N:Int) (N:Int) (by omega) (by omega) (by omega);unfold execOp;simp only[hop,hx,hy,hz,Option.map_some,Option.map_none];rw[show Tryz.prog.elem 63=9 from by kernel_rfl]at hs ht;simp[run_sliceAt_slice,go_sem,run_underlying ht,hs,sizeOf,typeInfo,hi,sliced,he,Result.andThen]
theorem zo3(k:UInt8)(A0:Option Addr)(n0 c0:Nat)(l0:List ByteArray)(A1:Option Addr)(n1 c1:Nat)(l1:List ByteArray)(hn:n0+n1≤1000)(hz:∀ s∈l0++l1,s.size≤1000000)(w:World)(h0:SlS w A0 n0 c0 l0)(h1:SlN w A1 n1 c1 l1) :
 Calls Tryz.prog 217 #[.int .u8 (k.toNat:Int),.slice A0 n0 c0,.slice A1 n1 c1,.func (.func 218) #[] #[]] w (Ret (.string (bstr (trH k (dt (l0++l1))))) w):=by
 obtain⟨i0,hi,hz0,hz1,hz2⟩:=info_parts zd5;have hib:=Lib.fresh_isBuilder 211 5 w;have hb0:Below w.heap.size w (w.alloc (.cells #[.pointer none,.slice none 0 0] 211)):=(blr).alloc nlr _;obtain⟨W0,hW0⟩:=nm (w.alloc (.cells #[.pointer none,.slice none 0 0] 211));have hzw:w.heap.size≤W0.heap.size:=by rw[←hW0];simp
 rw[hW0]at hib hb0;have HIB:=Hq hib;have HB0:=Hq hb0;have HS0:=Hq (h0.kept hb0);have HM1:=Hq h1;have HZ0:=Hq hzw;have HSZ:=Hq hz;have HN:=Hq hn;have HL0:=Hq h0.1.1;have HL1:=Hq h1.1;clear hib hb0 h0 hzw hz h1;go_enter Tryz.func217,Tryz.ntmps217;go_wp2_with fail;try rw[hW0]
 clear hW0;refine(za8 _ _ [] (k.toNat:Int) _ HIB.out (by simp) HZ0.out).mono ?_;rintro e w1 ⟨rfl,hi1,hb1,hk1⟩;have HI1:=Hq (show IsBuilder 211 5 w.heap.size w.heap.size (Lib.byteCells [k]) w1 from hi1);have HB1:=Hq (HB0.out.trans hb1);have HS1:=Hq (HS0.out.keptS hk1);have HZ1:=Hq (Nat.le_trans HZ0.out hb1.size);clear hi1 hb1 hk1;have h8:=zc1 w.heap.size w.heap.size (Lib.byteCells [k]) (n0+n1) (by omega) w1 HI1.out (by simp[Lib.byteCells]) HZ1.out;rw[Int.natCast_add]at h8;have H8:=Hq h8;have hni:(n0:Int)+(n1:Int)≤1000:=by omega
 clear h8 hn;go_wp2_with fail;refine H8.out.mono ?_;rintro e w2 ⟨rfl,hi2,hb2,hk2⟩;have HI2:=Hq hi2;have HB2:=Hq (HB1.out.trans hb2);have HS2:=Hq (HS1.out.keptS hk2);have HZ2:=Hq (Nat.le_trans HZ1.out hb2.size);clear hi2 hb2 hk2;obtain⟨H,hH⟩:=nm (Lib.byteCells [k]++Lib.byteCells (shE8 (n0+n1)));have HH:=Hq hH;rw[hH]at HI2;clear hH;go_wp2;go_loopw [1,25] (fun v i wr=>∃(j c:Nat) (A:Option Addr),j≤n1∧i=.int .i64 j∧v=.slice A (n0+j) c∧SlS wr A (n0+j) c (l0++l1.take j)∧IsBuilder 211 5 w.heap.size w.heap.size H wr∧Below w.heap.size w wr∧w.heap.size≤wr.heap.size) (fun _ i _=>n1 - (RowKit.intOf i).toNat);case atStart=>exact⟨0,c0,A0,Nat.zero_le _,rfl,rfl,by simpa using HS2.out,HI2.out,HB2.out,HZ2.out⟩
 case round =>
  obtain⟨j,c,A,hj,rfl,rfl,hs,hib,hb,hzr⟩:=hrel;have HS:=Hq hs;have HIB:=Hq hib;have HB:=Hq hb;have HZR:=Hq hzr;clear hs hib hb hzr;by_cases hlt:j<n1
  · obtain⟨b1,o1,rfl⟩:=HM1.out.head (by omega);obtain⟨x,hx⟩:∃ x,l1[j]? =some x:=⟨_,List.getElem?_eq_getElem (by have:=HL1.out;omega)⟩;have hcx:=(HM1.out.kept HB.out nlr).get? j hx;have HX:=Hq hx;obtain⟨N,hN⟩:=nm (n0+j);have HNN:=Hq hN;rw[hN]at HS⊢;have hNc:N≤c:=HS.out.1.2.1;have HLT:=Hq hlt;clear hN hx hj;go_wp2;obtain⟨wd,hwd⟩:=nm (wr.drew);have hbd:Below wr.heap.size wr wd:=by rw[←hwd];exact(blr).drew
    have HSD:=Hq (HS.out.kept hbd);have HID:=Hq (show IsBuilder 211 5 w.heap.size w.heap.size H wd from by rw[←hwd];exact zjn HIB.out);have HBD:=Hq (HB.out.trans (hbd.mono HZR.out));have HZD:=Hq (Nat.le_trans HZR.out hbd.size);clear hbd hcx;refine za 12 (fun _=>True) (by kernel_rfl) ?_;rw[hwd];refine rPs 0 29 11 trivial ?_;refine rPs 1 30 10 trivial ?_;refine rPs 2 31 9 trivial ?_;refine rPs 3 32 8 trivial ?_;refine rPs 4 33 7 trivial ?_;intro hD;refine ji (i:=5) (d:=some 34) (v:=(.slice A N N)) (fuel:=6) rfl (by kernel_rfl) (by kernel_rfl) (by kernel_rfl) (fun _ _ _ h=>h) hD trivial (.inl ⟨by kernel_rfl,?y7_5b1⟩) ?n7_5b1;case y7_5b1 =>
     intro w' _;exact zn1 (.tmp 29) (.tmp 31) (.tmp 33) rfl rfl rfl rfl hNc w'
    simp only[Act.put,sqA,sqB,sqC];refine rPs 6 35 5 trivial ?_;refine rPs 7 36 4 trivial ?_;refine rO 8 3 ?_;intro K8 hK8;go_wp2_with fail;refine(zya x _).mono ?_;rintro e w3 ⟨rfl,rfl⟩;go_wp2;refine hK8 _ _ (by trivial) ?_;clear hK8;intro hS_7_8;refine rO 9 2 ?_;intro K9 hK9;go_wp2;refine hK9 _ _ (by trivial) ?_;clear hK9;intro hS_7_9;refine rO 10 1 ?_;intro K10 hK10;refine wpList_append_grows _ rfl (.tmp 34) (.tmp 38) 63 rfl 9 i0 (.string ⟨#[]⟩) 1 16 Tryz.underlying63 hi hz0 hz1 hz2 rfl (by decide) A N N ((l0++l1.take j).map Value.string) rfl ?hnone ?hlo ?holds ⟨wd.heap.size,0,none⟩ 1 1 [.string x] rfl rfl ?c1 ?c2 (by omega) ?b1 ?b2 ?_;case hnone =>
     intro e;have h1:=HSD.out.2.1 e;have h2:=HSD.out.1.2.1;omega
    case hlo=>rw[List.length_map,HSD.out.1.1,Nat.mul_one]
    case holds =>
     intro b e i u hu;subst e;exact cell_kept ((blr).alloc nlr _) nlr (HSD.out.1.cells i u hu)
    case c1 =>
     intro i u hu
     match i,hu with
     | 0,hu=>simp at hu;subst hu;simp[Addr.add]
     | (i+1),hu=>simp at hu
    case c2=>intro u hu;simp at hu;subst hu;rfl
    case b1=>have:=HN.out;have:=HNN.out;have:=HLT.out;unfold maxLen;omega
    case b2=>have:=HN.out;have:=HNN.out;have:=HLT.out;omega
    intro v' w4 hown hgrow;obtain⟨A4,c4,rfl,hs4⟩:=SlS.of_owns (l:=l0++l1.take j++[x]) (by rw[List.map_append,List.map_singleton];exact hown);have hb4:Below wd.heap.size wd w4:=((blr).alloc nlr _).grown hgrow (by simp) (fun k e=>by cases e);have HS4:=Hq hs4;have HB4:=Hq hb4;clear hown hgrow hs4 hb4;go_wp2;refine hK10 _ _ (by trivial) ?_;clear hK10;intro hS_7_10;refine rO 11 0 ?_;intro K11 hK11;go_wp2;refine hK11 _ _ (by trivial) ?_;clear hK11;intro hS_7_11;refine wDn ?_;go_wp2;go_roundw;case rel =>
     refine⟨j+1,c4,A4,HLT.out,by go_num,by rw[←HNN.out];rfl,?_,zjm HID.out HB4.out,HBD.out.trans (HB4.out.mono HZD.out),Nat.le_trans HZD.out HB4.out.size⟩;rw[km HX.out,←List.append_assoc,←Nat.add_assoc,HNN.out];exact HS4.out
    case measure=>have:=HLT.out;simp[RowKit.intOf];omega
  · obtain⟨N,hN⟩:=nm (n0+n1);have hjn:j=n1:=by omega
    have HS9:=Hq (show SlS wr A N c (l0++l1)from by
     have h:=HS.out;rw[hjn,hN,List.take_of_length_le (by rw[HL1.out];exact Nat.le_refl _)]at h
     exact h)
    rw[show n0+j=N from by omega];obtain⟨L,hL⟩:=nm (l0++l1);have HLL:=Hq (show L.length=N from by rw[←hL,List.length_append,HL0.out,HL1.out];exact hN);have HN9:=Hq (show N≤1000 from by have:=HN.out;omega);rw[hL]at HS9 HSZ;have HLE:=Hq hL;have HH9:=Hq (show H=Lib.byteCells (k::shE8 L.length)from by rw[←HH.out,HLL.out,←hN,←byteCells_append];rfl);clear hjn hN hj HS hL;go_wp2;clear hlt;go_loopw [43] (fun i wr=>∃ q:Nat,q≤N∧i=.int .i64 q∧SlS wr A N c L∧IsBuilder 211 5 w.heap.size w.heap.size (Lib.byteCells (k::shE8 L.length++ptL (dt (L.take q)))) wr∧Below w.heap.size w wr∧w.heap.size≤wr.heap.size) (fun i _=>N - (RowKit.intOf i).toNat);case atStart=>exact⟨0,Nat.zero_le _,rfl,HS9.out,by have:=HIB.out;rw[HH9.out]at this;simpa[dt,ptL]using this,HB.out,HZR.out⟩
    case round =>
     obtain⟨q,hq,rfl,hs,hib,hb,hzr⟩:=hrel;have HSQ:=Hq hs;have HIQ:=Hq hib;have HBQ:=Hq hb;have HZQ:=Hq hzr;clear hs hib hb hzr;by_cases hlt:q<N
     · obtain⟨b1,o1,rfl⟩:=HSQ.out.1.head (by omega);obtain⟨x,hx⟩:∃ x,L[q]? =some x:=⟨_,List.getElem?_eq_getElem (by have:=HLL.out;omega)⟩;have hcx:=HSQ.out.1.get? q hx;have hxs:x.size≤1000000:=HSZ.out x (List.mem_of_getElem? hx);have HPL:=Hq (zkv HSZ.out q);have HPN:=Hq (show L.length * (8+1000000)≤1000 * (8+1000000)from Nat.mul_le_mul_right _ (by rw[HLL.out];exact HN9.out));have HXQ:=Hq hx;have HLQ:=Hq hlt;have hq9:(q:Int)<1000:=by have:=HN9.out;omega
       obtain⟨pre,hpre⟩:=nm (k::shE8 L.length++ptL (dt (L.take q)));have HPP:=Hq hpre;rw[hpre]at HIQ;have HPR:=Hq (show pre.length≤2000000000 from by
        rw[←hpre];have h1:=HPL.out;have h2:=HPN.out;simp[shE8]
        omega)
       have h8:=zc1 w.heap.size w.heap.size (Lib.byteCells pre) x.size (by omega) wr HIQ.out (by rw[byteCells_length];have:=HPR.out;omega) HZQ.out;have H8Q:=Hq h8;have HXS:=Hq hxs;clear hx hq h8 hpre hxs;go_wp2_with fail;refine H8Q.out.mono ?_;rintro e w3 ⟨rfl,hi3,hb3,hk3⟩;have HI3:=Hq hi3;have HB3:=Hq (HBQ.out.trans hb3);have HS3:=Hq (HSQ.out.keptS hk3);have HZ3:=Hq (Nat.le_trans HZQ.out hb3.size);clear hi3 hb3 hk3 hcx;go_wp2_with fail;refine(zbo _ _ _ x _ HI3.out (by rw[List.length_append,byteCells_length,byteCells_length];have:=HPR.out;have:=HXS.out;simp[shE8];omega) HZ3.out).mono ?_;rintro e w4 ⟨rfl,hi4,hb4,hk4⟩;rw[Lib.strCells_eq,←byteCells_append,←byteCells_append]at hi4;have HI4:=Hq hi4;have HB4:=Hq (HB3.out.trans hb4);have HS4:=Hq (HS3.out.keptS hk4);have HZ4:=Hq (Nat.le_trans HZ3.out hb4.size);clear hi4 hb4 hk4;go_wp2;go_roundw;case rel =>
        refine⟨q+1,HLQ.out,by go_num,HS4.out,?_,HB4.out,HZ4.out⟩;rw[km HXQ.out,zmy,zi1,jb,←List.append_assoc,←List.append_assoc,HPP.out];exact HI4.out
       case measure=>have:=HLQ.out;simp[RowKit.intOf];omega
     · have hqn:q=N:=by omega
       have HIZ:=Hq (show IsBuilder 211 5 w.heap.size w.heap.size (Lib.byteCells (frL k (dt L))) wr from by
        have h:=HIQ.out;rw[hqn,List.take_of_length_le (by rw[HLL.out];exact Nat.le_refl _)]at h;unfold frL;rw[zbp]
        exact h)
       have HPL:=Hq (zkv HSZ.out N);have HPN:=Hq (show L.length * (8+1000000)≤1000 * (8+1000000)from Nat.mul_le_mul_right _ (by rw[HLL.out];exact HN9.out));have hfl:(frL k (dt L)).length≤1000000000000:=(by have h1:=HPL.out;have h2:=HPN.out;rw[List.take_of_length_le (by rw[HLL.out];exact Nat.le_refl _)]at h1;unfold frL;simp[shE8];omega);have HFL:=Hq hfl;obtain⟨F,hF⟩:=nm (frL k (dt L));have HR:=Hq (show trH k (dt L)=shaL F from by rw[←hF];rfl);rw[hF]at HIZ HFL;clear hqn hfl hF HIQ hq HSQ;go_wp2_with fail;refine(zdj _ _ F _ HIZ.out HZQ.out).mono ?_;rintro e w3 ⟨rfl,hk3⟩;have HB3:=Hq (HBQ.out.trans hk3.1);have HZ3:=Hq (Nat.le_trans HZQ.out hk3.1.size);clear hk3;have hsz:(bstr F).size≤1000000000000:=by rw[zm];exact HFL.out
       have HSUM:=Hq (zp0 (bstr F) hsz);rw[jn]at HSUM;clear hsz;go_wp2_with fail;refine(HSUM.out _).mono ?_;rintro e w4 ⟨rfl,hb4⟩;have HB4:=Hq (HB3.out.trans (hb4.mono HZ3.out));clear hb4;go_wp2;go_ret;exact⟨by rw[HLE.out,HR.out];rfl,HB4.out⟩
theorem zo4(k:UInt8)(A0:Option Addr)(n0 c0:Nat)(l0:List ByteArray)(A1:Option Addr)(n1 c1:Nat)(l1:List ByteArray)(hn:n0+n1≤1000)(hz:∀ s∈l0++l1,s.size≤1000000)(w:World)(h0:SlS w A0 n0 c0 l0)(h1:SlN w A1 n1 c1 l1) :
 Calls Tryz.prog 168 #[.int .u8 (k.toNat:Int),.slice A0 n0 c0,.slice A1 n1 c1,.func (.func 169) #[] #[]] w (Ret (.string (bstr (trH k (dt (l0++l1))))) w):=by
 obtain⟨i0,hi,hz0,hz1,hz2⟩:=info_parts zd5;have hib:=Lib.fresh_isBuilder 211 5 w;have hb0:Below w.heap.size w (w.alloc (.cells #[.pointer none,.slice none 0 0] 211)):=(blr).alloc nlr _;obtain⟨W0,hW0⟩:=nm (w.alloc (.cells #[.pointer none,.slice none 0 0] 211));have hzw:w.heap.size≤W0.heap.size:=by rw[←hW0];simp
 rw[hW0]at hib hb0;have HIB:=Hq hib;have HB0:=Hq hb0;have HS0:=Hq (h0.kept hb0);have HM1:=Hq h1;have HZ0:=Hq hzw;have HSZ:=Hq hz;have HN:=Hq hn;have HL0:=Hq h0.1.1;have HL1:=Hq h1.1;clear hib hb0 h0 hzw hz h1;go_enter Tryz.func168,Tryz.ntmps168;go_wp2_with fail;try rw[hW0]
 clear hW0;refine(za8 _ _ [] (k.toNat:Int) _ HIB.out (by simp) HZ0.out).mono ?_;rintro e w1 ⟨rfl,hi1,hb1,hk1⟩;have HI1:=Hq (show IsBuilder 211 5 w.heap.size w.heap.size (Lib.byteCells [k]) w1 from hi1);have HB1:=Hq (HB0.out.trans hb1);have HS1:=Hq (HS0.out.keptS hk1);have HZ1:=Hq (Nat.le_trans HZ0.out hb1.size);clear hi1 hb1 hk1;have h8:=zc1 w.heap.size w.heap.size (Lib.byteCells [k]) (n0+n1) (by omega) w1 HI1.out (by simp[Lib.byteCells]) HZ1.out;rw[Int.natCast_add]at h8;have H8:=Hq h8;have hni:(n0:Int)+(n1:Int)≤1000:=by omega
 clear h8 hn;go_wp2_with fail;refine H8.out.mono ?_;rintro e w2 ⟨rfl,hi2,hb2,hk2⟩;have HI2:=Hq hi2;have HB2:=Hq (HB1.out.trans hb2);have HS2:=Hq (HS1.out.keptS hk2);have HZ2:=Hq (Nat.le_trans HZ1.out hb2.size);clear hi2 hb2 hk2;obtain⟨H,hH⟩:=nm (Lib.byteCells [k]++Lib.byteCells (shE8 (n0+n1)));have HH:=Hq hH;rw[hH]at HI2;clear hH;go_wp2;go_loopw [1,25] (fun v i wr=>∃(j c:Nat) (A:Option Addr),j≤n1∧i=.int .i64 j∧v=.slice A (n0+j) c∧SlS wr A (n0+j) c (l0++l1.take j)∧IsBuilder 211 5 w.heap.size w.heap.size H wr∧Below w.heap.size w wr∧w.heap.size≤wr.heap.size) (fun _ i _=>n1 - (RowKit.intOf i).toNat);case atStart=>exact⟨0,c0,A0,Nat.zero_le _,rfl,rfl,by simpa using HS2.out,HI2.out,HB2.out,HZ2.out⟩
 case round =>
  obtain⟨j,c,A,hj,rfl,rfl,hs,hib,hb,hzr⟩:=hrel;have HS:=Hq hs;have HIB:=Hq hib;have HB:=Hq hb;have HZR:=Hq hzr;clear hs hib hb hzr;by_cases hlt:j<n1
  · obtain⟨b1,o1,rfl⟩:=HM1.out.head (by omega);obtain⟨x,hx⟩:∃ x,l1[j]? =some x:=⟨_,List.getElem?_eq_getElem (by have:=HL1.out;omega)⟩;have hcx:=(HM1.out.kept HB.out nlr).get? j hx;have HX:=Hq hx;obtain⟨N,hN⟩:=nm (n0+j);have HNN:=Hq hN;rw[hN]at HS⊢;have hNc:N≤c:=HS.out.1.2.1;have HLT:=Hq hlt;clear hN hx hj;go_wp2;obtain⟨wd,hwd⟩:=nm (wr.drew);have hbd:Below wr.heap.size wr wd:=by rw[←hwd];exact(blr).drew
    have HSD:=Hq (HS.out.kept hbd);have HID:=Hq (show IsBuilder 211 5 w.heap.size w.heap.size H wd from by rw[←hwd];exact zjn HIB.out);have HBD:=Hq (HB.out.trans (hbd.mono HZR.out));have HZD:=Hq (Nat.le_trans HZR.out hbd.size);clear hbd hcx;refine za 12 (fun _=>True) (by kernel_rfl) ?_;rw[hwd];refine rPs 0 29 11 trivial ?_;refine rPs 1 30 10 trivial ?_;refine rPs 2 31 9 trivial ?_;refine rPs 3 32 8 trivial ?_;refine rPs 4 33 7 trivial ?_;intro hD;refine ji (i:=5) (d:=some 34) (v:=(.slice A N N)) (fuel:=6) rfl (by kernel_rfl) (by kernel_rfl) (by kernel_rfl) (fun _ _ _ h=>h) hD trivial (.inl ⟨by kernel_rfl,?y7_5b2⟩) ?n7_5b2;case y7_5b2 =>
     intro w' _;exact zn1 (.tmp 29) (.tmp 31) (.tmp 33) rfl rfl rfl rfl hNc w'
    simp only[Act.put,sqA,sqB,sqC];refine rPs 6 35 5 trivial ?_;refine rPs 7 36 4 trivial ?_;refine rO 8 3 ?_;intro K8 hK8;go_wp2_with fail;refine(zyb x _).mono ?_;rintro e w3 ⟨rfl,rfl⟩;go_wp2;refine hK8 _ _ (by trivial) ?_;clear hK8;intro hS_7_8;refine rO 9 2 ?_;intro K9 hK9;go_wp2;refine hK9 _ _ (by trivial) ?_;clear hK9;intro hS_7_9;refine rO 10 1 ?_;intro K10 hK10;refine wpList_append_grows _ rfl (.tmp 34) (.tmp 38) 63 rfl 9 i0 (.string ⟨#[]⟩) 1 16 Tryz.underlying63 hi hz0 hz1 hz2 rfl (by decide) A N N ((l0++l1.take j).map Value.string) rfl ?hnone ?hlo ?holds ⟨wd.heap.size,0,none⟩ 1 1 [.string x] rfl rfl ?c1 ?c2 (by omega) ?b1 ?b2 ?_;case hnone =>
     intro e;have h1:=HSD.out.2.1 e;have h2:=HSD.out.1.2.1;omega
    case hlo=>rw[List.length_map,HSD.out.1.1,Nat.mul_one]
    case holds =>
     intro b e i u hu;subst e;exact cell_kept ((blr).alloc nlr _) nlr (HSD.out.1.cells i u hu)
    case c1 =>
     intro i u hu
     match i,hu with
     | 0,hu=>simp at hu;subst hu;simp[Addr.add]
     | (i+1),hu=>simp at hu
    case c2=>intro u hu;simp at hu;subst hu;rfl
    case b1=>have:=HN.out;have:=HNN.out;have:=HLT.out;unfold maxLen;omega
    case b2=>have:=HN.out;have:=HNN.out;have:=HLT.out;omega
    intro v' w4 hown hgrow;obtain⟨A4,c4,rfl,hs4⟩:=SlS.of_owns (l:=l0++l1.take j++[x]) (by rw[List.map_append,List.map_singleton];exact hown);have hb4:Below wd.heap.size wd w4:=((blr).alloc nlr _).grown hgrow (by simp) (fun k e=>by cases e);have HS4:=Hq hs4;have HB4:=Hq hb4;clear hown hgrow hs4 hb4;go_wp2;refine hK10 _ _ (by trivial) ?_;clear hK10;intro hS_7_10;refine rO 11 0 ?_;intro K11 hK11;go_wp2;refine hK11 _ _ (by trivial) ?_;clear hK11;intro hS_7_11;refine wDn ?_;go_wp2;go_roundw;case rel =>
     refine⟨j+1,c4,A4,HLT.out,by go_num,by rw[←HNN.out];rfl,?_,zjm HID.out HB4.out,HBD.out.trans (HB4.out.mono HZD.out),Nat.le_trans HZD.out HB4.out.size⟩;rw[km HX.out,←List.append_assoc,←Nat.add_assoc,HNN.out];exact HS4.out
    case measure=>have:=HLT.out;simp[RowKit.intOf];omega
  · obtain⟨N,hN⟩:=nm (n0+n1);have hjn:j=n1:=by omega
    have HS9:=Hq (show SlS wr A N c (l0++l1)from by
     have h:=HS.out;rw[hjn,hN,List.take_of_length_le (by rw[HL1.out];exact Nat.le_refl _)]at h
     exact h)
    rw[show n0+j=N from by omega];obtain⟨L,hL⟩:=nm (l0++l1);have HLL:=Hq (show L.length=N from by rw[←hL,List.length_append,HL0.out,HL1.out];exact hN);have HN9:=Hq (show N≤1000 from by have:=HN.out;omega);rw[hL]at HS9 HSZ;have HLE:=Hq hL;have HH9:=Hq (show H=Lib.byteCells (k::shE8 L.length)from by rw[←HH.out,HLL.out,←hN,←byteCells_append];rfl);clear hjn hN hj HS hL;go_wp2;clear hlt;go_loopw [43] (fun i wr=>∃ q:Nat,q≤N∧i=.int .i64 q∧SlS wr A N c L∧IsBuilder 211 5 w.heap.size w.heap.size (Lib.byteCells (k::shE8 L.length++ptL (dt (L.take q)))) wr∧Below w.heap.size w wr∧w.heap.size≤wr.heap.size) (fun i _=>N - (RowKit.intOf i).toNat);case atStart=>exact⟨0,Nat.zero_le _,rfl,HS9.out,by have:=HIB.out;rw[HH9.out]at this;simpa[dt,ptL]using this,HB.out,HZR.out⟩
    case round =>
     obtain⟨q,hq,rfl,hs,hib,hb,hzr⟩:=hrel;have HSQ:=Hq hs;have HIQ:=Hq hib;have HBQ:=Hq hb;have HZQ:=Hq hzr;clear hs hib hb hzr;by_cases hlt:q<N
     · obtain⟨b1,o1,rfl⟩:=HSQ.out.1.head (by omega);obtain⟨x,hx⟩:∃ x,L[q]? =some x:=⟨_,List.getElem?_eq_getElem (by have:=HLL.out;omega)⟩;have hcx:=HSQ.out.1.get? q hx;have hxs:x.size≤1000000:=HSZ.out x (List.mem_of_getElem? hx);have HPL:=Hq (zkv HSZ.out q);have HPN:=Hq (show L.length * (8+1000000)≤1000 * (8+1000000)from Nat.mul_le_mul_right _ (by rw[HLL.out];exact HN9.out));have HXQ:=Hq hx;have HLQ:=Hq hlt;have hq9:(q:Int)<1000:=by have:=HN9.out;omega
       obtain⟨pre,hpre⟩:=nm (k::shE8 L.length++ptL (dt (L.take q)));have HPP:=Hq hpre;rw[hpre]at HIQ;have HPR:=Hq (show pre.length≤2000000000 from by
        rw[←hpre];have h1:=HPL.out;have h2:=HPN.out;simp[shE8]
        omega)
       have h8:=zc1 w.heap.size w.heap.size (Lib.byteCells pre) x.size (by omega) wr HIQ.out (by rw[byteCells_length];have:=HPR.out;omega) HZQ.out;have H8Q:=Hq h8;have HXS:=Hq hxs;clear hx hq h8 hpre hxs;go_wp2_with fail;refine H8Q.out.mono ?_;rintro e w3 ⟨rfl,hi3,hb3,hk3⟩;have HI3:=Hq hi3;have HB3:=Hq (HBQ.out.trans hb3);have HS3:=Hq (HSQ.out.keptS hk3);have HZ3:=Hq (Nat.le_trans HZQ.out hb3.size);clear hi3 hb3 hk3 hcx;go_wp2_with fail;refine(zbo _ _ _ x _ HI3.out (by rw[List.length_append,byteCells_length,byteCells_length];have:=HPR.out;have:=HXS.out;simp[shE8];omega) HZ3.out).mono ?_;rintro e w4 ⟨rfl,hi4,hb4,hk4⟩;rw[Lib.strCells_eq,←byteCells_append,←byteCells_append]at hi4;have HI4:=Hq hi4;have HB4:=Hq (HB3.out.trans hb4);have HS4:=Hq (HS3.out.keptS hk4);have HZ4:=Hq (Nat.le_trans HZ3.out hb4.size);clear hi4 hb4 hk4;go_wp2;go_roundw;case rel =>
        refine⟨q+1,HLQ.out,by go_num,HS4.out,?_,HB4.out,HZ4.out⟩;rw[km HXQ.out,zmy,zi1,jb,←List.append_assoc,←List.append_assoc,HPP.out];exact HI4.out
       case measure=>have:=HLQ.out;simp[RowKit.intOf];omega
     · have hqn:q=N:=by omega
       have HIZ:=Hq (show IsBuilder 211 5 w.heap.size w.heap.size (Lib.byteCells (frL k (dt L))) wr from by
        have h:=HIQ.out;rw[hqn,List.take_of_length_le (by rw[HLL.out];exact Nat.le_refl _)]at h;unfold frL;rw[zbp]
        exact h)
       have HPL:=Hq (zkv HSZ.out N);have HPN:=Hq (show L.length * (8+1000000)≤1000 * (8+1000000)from Nat.mul_le_mul_right _ (by rw[HLL.out];exact HN9.out));have hfl:(frL k (dt L)).length≤1000000000000:=(by have h1:=HPL.out;have h2:=HPN.out;rw[List.take_of_length_le (by rw[HLL.out];exact Nat.le_refl _)]at h1;unfold frL;simp[shE8];omega);have HFL:=Hq hfl;obtain⟨F,hF⟩:=nm (frL k (dt L));have HR:=Hq (show trH k (dt L)=shaL F from by rw[←hF];rfl);rw[hF]at HIZ HFL;clear hqn hfl hF HIQ hq HSQ;go_wp2_with fail;refine(zdj _ _ F _ HIZ.out HZQ.out).mono ?_;rintro e w3 ⟨rfl,hk3⟩;have HB3:=Hq (HBQ.out.trans hk3.1);have HZ3:=Hq (Nat.le_trans HZQ.out hk3.1.size);clear hk3;have hsz:(bstr F).size≤1000000000000:=by rw[zm];exact HFL.out
       have HSUM:=Hq (zp0 (bstr F) hsz);rw[jn]at HSUM;clear hsz;go_wp2_with fail;refine(HSUM.out _).mono ?_;rintro e w4 ⟨rfl,hb4⟩;have HB4:=Hq (HB3.out.trans (hb4.mono HZ3.out));clear hb4;go_wp2;go_ret;exact⟨by rw[HLE.out,HR.out];rfl,HB4.out⟩
set_option maxRecDepth 100000
set_option maxHeartbeats 2000000
theorem zj2:(Tryz.prog.info? 131).map (fun i=>(i.zero,i.size,i.bytes))=some (some (.int .u32 0),1,4):=by kernel_rfl
theorem zpn(n:Nat)(hn:n≤1000000)(w:World):(Instr.makeSlice 148 (.int .i64 n) (.int .i64 n)).run Tryz.prog w=.ok (.slice (some ⟨w.heap.size,0,none⟩) n n) (w.alloc (.cells (madeCells #[.int .u32 0] n) 131)):=by
 obtain⟨i0,hi,hz0,hz1,hz2⟩:=info_parts zj2;have h:=run_make (P:=Tryz.prog) w 148 131 i0 (.int .u32 0) Tryz.underlying148 hi hz0 .i64 .i64 (n:Int) (n:Int) (by omega) (Int.le_refl _) (by rw[hz2];omega) (by omega);rw[h,hz1,Int.toNat_natCast,Nat.mul_one];rfl
theorem zha{op:Oper}{ρ:Operand→Value}{w:World}(x i:Operand)(ho:op.op=.index 9 x i)(s:ByteArray)(p:Nat)(hx:ρ x=.string s)(hi:ρ i=.int .i64 (p:Int))(hp:p<s.size){v:Nat}(hv:(s.data.toList.getD p 0).toNat=v) :
 (execOp ρ op).run Tryz.prog w=.ok (.value (.int .u8 (v:Int))) w:=by
 subst hv;have h1:s[p]? =some s[p]:=by simp[hp]
 have h2:s.data.toList.getD p 0=s[p]:=kb s p hp;rw[h2];unfold execOp;simp[ho,hx,hi,Instr.index,asIntOf,run_underlying Tryz.underlying9,h1,Result.andThen]
theorem zo8(X16 X15 X7 X2:BitVec 32):(((wi X16+bits .xor .u32 (bits .xor .u32 (wi (rr X15 7)) (wi (rr X15 18))) (wi X15 / 8))%4294967296+wi X7)%4294967296+bits .xor .u32 (bits .xor .u32 (wi (rr X2 17)) (wi (rr X2 19))) (wi X2 / 1024))%4294967296=wi (X16+sg0 X15+X7+sg1 X2):=by
 rw[show (8:Int)=2 ^ 3 from rfl,show (1024:Int)=2 ^ 10 from rfl,zhe,zhe,xz,xz,xz,xz,ks,ks,ks];rfl
def pb(m:List UInt8)(i:Nat):Nat→Nat
 | 0=>0
 | q+1=>pb m i q * 256+(m.getD (4 * i+q) 0).toNat
theorem zwz(m:List UInt8)(i:Nat):BitVec.ofNat 32 (pb m i 4)=wd m i:=by simp[pb,wd]
theorem ztj(p b:Nat):(wi (BitVec.ofNat 32 p) * 256%4294967296+(b:Int))%4294967296=wi (BitVec.ofNat 32 (p * 256+b)):=by
 unfold wi;rw[BitVec.toNat_ofNat,BitVec.toNat_ofNat];omega
def wq(m:List UInt8)(i q:Nat)(j:Nat):BitVec 32:=if j=i then BitVec.ofNat 32 (pb m i q)else wz m i j
theorem zv8(m:List UInt8)(i:Nat):wq m i 0=wz m i:=by
 funext j
 unfold wq wz;by_cases h:j=i
 · subst h;rw[if_pos rfl,if_neg (Nat.lt_irrefl _)];rfl
 · rw[if_neg h]
theorem zv9(m:List UInt8)(i:Nat)(h:i<16):wq m i 4=wz m (i+1):=by
 funext j
 unfold wq wz;by_cases e:j=i
 · subst e;rw[if_pos rfl,if_pos (Nat.lt_succ_self _),zwz,zvj m h]
 · rw[if_neg e];by_cases h2:j<i
   · rw[if_pos h2,if_pos (by omega)]
   · rw[if_neg h2,if_neg (by omega)]
theorem zko(s:ByteArray)(hs:s.size=64)(w:World):Calls Tryz.prog 147 #[.string s] w fun e w'=>e=.returned (.slice (some ⟨w.heap.size,0,none⟩) 64 64)∧RowW w' w.heap.size 64 131 (wv s.data.toList)∧Below w.heap.size w w':=by
 obtain⟨m,hm⟩:=nm (s.data.toList);have HM:=Hq hm;rw[hm];clear hm;have hmk:(Instr.makeSlice 148 (.int .i64 64) (.int .i64 64)).run Tryz.prog w=.ok (.slice (some ⟨w.heap.size,0,none⟩) 64 64) (w.alloc (.cells (madeCells #[.int .u32 0] 64) 131)):=zpn 64 (by decide) w;obtain⟨w1,hw1⟩:=nm (w.alloc (.cells (madeCells #[.int .u32 0] 64) 131));have HR1:=Hq (show RowW w1 w.heap.size 64 131 (wz m 0)from by
  rw[show wz m 0=fun _=>0 from funext fun j=>rfl];unfold RowW;rw[zql,←hw1];exact heap_alloc_new _ _)
 have HB1:=Hq (show Below w.heap.size w w1 from hw1▸(blr).alloc nlr _);rw[hw1]at hmk;clear hw1;obtain⟨H,hH⟩:=nm (w.heap.size);rw[hH]at HR1 HB1 hmk⊢;go_enter Tryz.func147,Tryz.ntmps147;go_wp2;clear hmk;go_loopw [4] (fun i wr=>∃ k:Nat,k≤16∧i=.int .i64 k∧RowW wr H 64 131 (wz m k)∧Below H w wr) (fun i _=>16 - (RowKit.intOf i).toNat);case atStart=>exact⟨0,Nat.zero_le _,rfl,HR1.out,HB1.out⟩
 case round =>
  obtain⟨k,hk,rfl,hR,hBR⟩:=hrel;have HR:=Hq hR;have HB:=Hq hBR;clear hR hBR;by_cases hlt:k<16
  · have hlti:(k:Int)<16:=by omega
    have hk64:(k:Int)<64:=by omega
    go_wp2;go_loopw [5] (fun i wr=>∃ q:Nat,q≤4∧i=.int .i64 q∧RowW wr H 64 131 (wq m k q)∧Below H w wr) (fun i _=>4 - (RowKit.intOf i).toNat);case atStart=>exact⟨0,Nat.zero_le _,rfl,by rw[zv8];exact HR.out,HB.out⟩
    case round =>
     obtain⟨q,hq,rfl,hR,hBR⟩:=hrel;have HR:=Hq hR;have HB:=Hq hBR;clear hR hBR;by_cases hq4:q<4
     · have hq4i:(q:Int)<4:=by omega
       have c0:=HR.out.drew.cell (show k<64 by omega);have hf:=HR.out.drew.free k;rw[show wq m k q k=BitVec.ofNat 32 (pb m k q)from by unfold wq;rw[if_pos rfl]]at c0;obtain⟨y,hy⟩:=nm (BitVec.ofNat 32 (pb m k q));rw[hy]at c0;have HY:=Hq hy;clear hy;obtain⟨p,hp⟩:=nm (4 * k+q);have hpi:4 * (k:Int)+(q:Int)=(p:Int):=by omega
       have hp64:(p:Int)<64:=by omega
       have hwa:IntKind.i64.wrap (4 * (k:Int))=4 * (k:Int):=by rw[IntKind.wrap_i64];omega
       have hwb:IntKind.i64.wrap (p:Int)=(p:Int):=by rw[IntKind.wrap_i64];omega
       have HPS:=Hq (show p<s.size from by omega);obtain⟨x,hx⟩:=nm ((m.getD p 0).toNat);have hx255:x≤255:=by rw[←hx];have:=(m.getD p 0).toNat_lt;omega
       have HXX:=Hq hx;have HP:=Hq hp;clear hx hp;obtain⟨wd,hwd⟩:=nm (wr.drew);rw[hwd]at c0 hf;go_wp2;refine za 16 (Eq wd) (by kernel_rfl) ?_;rw[hwd];refine qPDs 0 20 16 rfl ?_;refine qPDs 1 21 15 rfl ?_;refine qPDs 2 22 14 rfl ?_;refine qPDs 3 23 13 rfl ?_;refine qPDs 4 24 12 rfl ?_;refine qTDs 5 25 11 rfl (fun w' hS'=>((hS'▸c0))) ?_;refine qPDs 6 26 10 rfl ?_;refine qPDs 7 27 9 rfl ?_;refine qPDs 8 28 8 rfl ?_;refine qPDs 9 29 7 rfl ?_;refine qPDs 10 30 6 rfl ?_;refine qPDs 11 31 5 rfl ?_;intro hD;refine zbh (i:=12) (d:=some 32) (v:=(.int .u8 (x:Int))) (fuel:=4) rfl (by kernel_rfl) (by kernel_rfl) (by kernel_rfl) (fun _ _ _ h=>h) hD rfl (.inl ⟨by kernel_rfl,?y8_12b1⟩) ?n8_12b1;case y8_12b1 =>
        intro w' hS';exact zha (.tmp 27) (.tmp 31) rfl s p rfl rfl HPS.out (by rw[HM.out];exact HXX.out)
       simp only[Act.put,sqA,sqB,sqC];refine qPDs 13 33 3 rfl ?_;refine qPDs 14 34 2 rfl ?_;refine qPDs 15 35 1 rfl ?_;refine oT 16 0 ?_;intro K16 hK16;go_wp2;refine hK16 _ _ ?_;clear hK16;refine wDn ?_;rw[←HY.out,ztj];obtain⟨V,hV⟩:=nm (BitVec.ofNat 32 (pb m k q * 256+x));have HV:=Hq hV;rw[hV,HY.out];clear hV;go_wp2;go_roundw;case rel =>
        refine⟨q+1,by omega,by go_num,?_,?_⟩
        · rw[←hwd];refine(HR.out.drew.set k V).congr fun j hj=>?_;unfold wq;by_cases e:j=k
          · rw[if_pos e,if_pos e,←HV.out,←HXX.out,←HP.out];rfl
          · rw[if_neg e,if_neg e,if_neg e]
        · rw[←hwd];exact HB.out.drew.setCell nlr _
       case measure=>simp[RowKit.intOf];omega
     · have HQ:=Hq (show q=4 from by omega);have hq4i:¬ ((q:Int)<4):=by omega
       have HR2:=Hq (show RowW wr H 64 131 (wz m (k+1))from by rw[←zv9 m k hlt,←HQ.out];exact HR.out);clear hq hq4 HQ HR;go_wp2;go_roundw;case rel=>exact⟨k+1,by omega,by go_num,HR2.out,HB.out⟩
       case measure=>simp[RowKit.intOf];omega
  · have HK:=Hq (show k=16 from by omega);have hge:¬ ((k:Int)<16):=by omega
    have HR2:=Hq (show RowW wr H 64 131 (wz m 16)from by rw[←HK.out];exact HR.out);clear hk hlt HK HR;go_wp2;go_loopw [6] (fun i wr=>∃ k:Nat,16≤k∧k≤64∧i=.int .i64 k∧RowW wr H 64 131 (wz m k)∧Below H w wr) (fun i _=>64 - (RowKit.intOf i).toNat);case atStart=>exact⟨16,Nat.le_refl _,by omega,rfl,HR2.out,HB.out⟩
    case round =>
     obtain⟨k,hk0,hk,rfl,hR,hBR⟩:=hrel;have HR:=Hq hR;have HB:=Hq hBR;clear hR hBR;by_cases hlt:k<64
     · have hlti:(k:Int)<64:=by omega
       obtain⟨q15,hq15⟩:=nm (k - 15);obtain⟨q2,hq2⟩:=nm (k - 2);obtain⟨q16,hq16⟩:=nm (k - 16);obtain⟨q7,hq7⟩:=nm (k - 7);have i15:(k:Int) - 15=(q15:Int):=by omega
       have i2:(k:Int) - 2=(q2:Int):=by omega
       have i16:(k:Int) - 16=(q16:Int):=by omega
       have i7:(k:Int) - 7=(q7:Int):=by omega
       have l15:(q15:Int)<64:=by omega
       have l2:(q2:Int)<64:=by omega
       have l16:(q16:Int)<64:=by omega
       have l7:(q7:Int)<64:=by omega
       have v15:IntKind.i64.wrap (q15:Int)=(q15:Int):=by rw[IntKind.wrap_i64];omega
       have v2:IntKind.i64.wrap (q2:Int)=(q2:Int):=by rw[IntKind.wrap_i64];omega
       have v16:IntKind.i64.wrap (q16:Int)=(q16:Int):=by rw[IntKind.wrap_i64];omega
       have v7:IntKind.i64.wrap (q7:Int)=(q7:Int):=by rw[IntKind.wrap_i64];omega
       have HV:=Hq (show wv m k=wz m k q16+sg0 (wz m k q15)+wz m k q7+sg1 (wz m k q2)from by
        unfold wz;rw[if_pos (by omega),if_pos (by omega),if_pos (by omega),if_pos (by omega),zqj m hk0,hq15,hq2,hq16,hq7])
       have c15:=HR.out.drew.cell (show q15<64 by omega);have c2:=HR.out.drew.cell (show q2<64 by omega);have L16:=Hq (show q16<64 from by omega);have L7:=Hq (show q7<64 from by omega);obtain⟨X15,hX15⟩:=nm (wz m k q15);obtain⟨X2,hX2⟩:=nm (wz m k q2);obtain⟨X16,hX16⟩:=nm (wz m k q16);obtain⟨X7,hX7⟩:=nm (wz m k q7);rw[hX15,hX2,hX16,hX7]at HV;rw[hX15]at c15;rw[hX2]at c2;have HX16:=Hq hX16;have HX7:=Hq hX7;clear hX15 hX2 hX16 hX7 hq15 hq2 hq16 hq7;obtain⟨wd,hwd⟩:=nm (wr.drew);have HRD:=Hq (show RowW wd H 64 131 (wz m k)from by rw[←hwd];exact HR.out.drew);have HBD:=Hq (show Below H w wd from by rw[←hwd];exact HB.out.drew);rw[hwd]at c15 c2;go_wp2;refine za 12 (Eq wd) (by kernel_rfl) ?_;rw[hwd];refine rPs 0 40 11 rfl ?_;refine rPs 1 41 10 rfl ?_;refine rPs 2 42 9 rfl ?_;refine rPs 3 43 8 rfl ?_;refine rTs 4 44 7 rfl (fun w' hS'=>(And.intro ((hS'▸c15)) ((hS'▸c2)))) ?_;refine rPs 5 45 6 rfl ?_;refine rPs 6 46 5 rfl ?_;refine rPs 7 47 4 rfl ?_;refine rPs 8 48 3 rfl ?_;refine rTs 9 49 2 rfl (fun w' hS'=>(And.intro ((hS'▸c15)) ((hS'▸c2)))) ?_;refine rO 10 1 ?_;intro K10 hK10;go_wp2;refine hK10 _ _ (by rfl) ?_;clear hK10;intro hS_12_10;refine rO 11 0 ?_;intro K11 hK11;go_wp2;refine hK11 _ _ (by rfl) ?_;clear hK11;intro hS_12_11;refine wDn ?_;clear c15 c2 hwd;go_wp2_with fail;refine(xo X15 7 (by decide) (by decide) _).mono ?_;rintro e' w1 ⟨rfl,hb1⟩;go_wp2_with fail;refine(xo X15 18 (by decide) (by decide) _).mono ?_;rintro e' w2 ⟨rfl,hb2⟩;go_wp2_with fail;refine(xo X2 17 (by decide) (by decide) _).mono ?_;rintro e' w3 ⟨rfl,hb3⟩;go_wp2_with fail;refine(xo X2 19 (by decide) (by decide) _).mono ?_;rintro e' w4 ⟨rfl,hb4⟩;have HB4:=Hq (show Below wd.heap.size wd w4 from((hb1.trans (hb2.mono hb1.size)).trans (hb3.mono (by have:=hb1.size;have:=hb2.size;omega))).trans (hb4.mono (by have:=hb1.size;have:=hb2.size;have:=hb3.size;omega)));clear hb1 hb2 hb3 hb4;have HR4:=Hq (HRD.out.kept HB4.out HRD.out.lt);have HBB:=Hq (HBD.out.trans (HB4.out.mono (by have:=HRD.out.lt;omega)));have c16:=HR4.out.drew.cell L16.out;have c7:=HR4.out.drew.cell L7.out;have hf:=HR4.out.drew.free k;have hcw:=HR4.out.drew.cell (show k<64 by omega);rw[HX16.out]at c16;rw[HX7.out]at c7;obtain⟨we,hwe⟩:=nm (w4.drew);rw[hwe]at c16 c7 hf hcw;go_wp2;refine za 18 (Eq we) (by kernel_rfl) ?_;rw[hwe];refine qPDs 0 66 18 rfl ?_;refine qPDs 1 67 17 rfl ?_;refine qPDs 2 68 16 rfl ?_;refine qPDs 3 69 15 rfl ?_;refine qPDs 4 70 14 rfl ?_;refine qPDs 5 71 13 rfl ?_;refine qTDs 6 72 12 rfl (fun w' hS'=>(And.intro ((hS'▸c16)) ((hS'▸c7)))) ?_;refine qPDs 7 73 11 rfl ?_;refine qPDs 8 74 10 rfl ?_;refine qPDs 9 75 9 rfl ?_;refine qPDs 10 76 8 rfl ?_;refine qPDs 11 77 7 rfl ?_;refine qPDs 12 78 6 rfl ?_;refine qTDs 13 79 5 rfl (fun w' hS'=>(And.intro ((hS'▸c16)) ((hS'▸c7)))) ?_;refine qPDs 14 80 4 rfl ?_;refine qPDs 15 81 3 rfl ?_;refine qPDs 16 82 2 rfl ?_;refine qPDs 17 83 1 rfl ?_;refine oT 18 0 ?_;intro K18 hK18;go_wp2;refine hK18 _ _ ?_;clear hK18;refine wDn ?_;clear i15 i2 i16 i7 l15 l2 l16 l7 v15 v2 v16 v7 c16 c7 hf hcw;rw[zo8,←HV.out];obtain⟨V,hV⟩:=nm (wv m k);rw[hV];have HVV:=Hq hV;clear hV HV;go_wp2;go_roundw;case rel =>
        refine⟨k+1,by omega,by omega,by go_num,?_,?_⟩
        · rw[←hwe];refine(HR4.out.drew.set k V).congr fun i hi=>?_;unfold wz;by_cases e:i=k
          · rw[if_pos e,if_pos (by omega),e,HVV.out]
          · rw[if_neg e];by_cases h:i<k
            · rw[if_pos h,if_pos (by omega)]
            · rw[if_neg h,if_neg (by omega)]
        · rw[←hwe];exact HBB.out.drew.setCell nlr _
       case measure=>simp[RowKit.intOf];omega
     · have HK:=Hq (show k=64 from by omega);have hge:¬ ((k:Int)<64):=by omega
       have HR3:=Hq (show RowW wr H 64 131 (wv m)from HR.out.congr fun i hi=>by unfold wz;rw[if_pos (by have:=HK.out;omega)]);clear hk0 hk hlt HK;go_wp2;go_ret;exact⟨rfl,HR3.out,HB.out⟩
end Go.Proofs.YtppbcopnfankcaaGreat
