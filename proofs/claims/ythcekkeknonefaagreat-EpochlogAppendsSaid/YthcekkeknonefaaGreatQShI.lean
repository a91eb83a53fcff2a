import Derived.Test.YthcekkeknonefaaGreatQTrC
import Derived.Test.YthcekkeknonefaaGreatQRowN
import Derived.ArgAppend
set_option linter.unusedVariables false
set_option linter.unusedSimpArgs false
namespace Go.Proofs.YthcekkeknonefaaGreat
set_option maxRecDepth 100000
set_option maxHeartbeats 4000000
open Go.RowKit Go.Lib
def SlS(w:World)(A:Option Addr)(n c:Nat)(l:List ByteArray):Prop:=
 SlN w A n c l∧(A=none→c=0)∧∀ b o,A=some ⟨b,o,none⟩→∃ cs fr,w.heap[b]? =some (.cells cs 9 fr)
theorem SlS.kept{w w':World}{A:Option Addr}{n c:Nat}{l:List ByteArray}(h:SlS w A n c l)(hb:Below w.heap.size w w'):SlS w' A n c l:=
 ⟨h.1.kept hb (Nat.le_refl _),h.2.1,fun b o e=>by obtain⟨cs,fr,hc⟩:=h.2.2 b o e;exact⟨cs,fr,(hb.block b (block_lt hc)).trans hc⟩⟩
theorem cell_keepS{w w':World}{b k:Nat}{cs:Array Value}{fr:Nat×Nat}(hk:KeepS w w')(hc:w.heap[b]? =some (.cells cs 9 fr)):w'.cell? ⟨b,k,none⟩=w.cell? ⟨b,k,none⟩:=by
 unfold World.cell?;rw[hk b cs fr hc,hc]
theorem SlS.keptS{w w':World}{A:Option Addr}{n c:Nat}{l:List ByteArray}(h:SlS w A n c l)(hk:KeepS w w'):SlS w' A n c l:=by
 obtain⟨⟨h1,h2,h3,b,o,h4,h5⟩,h6,h7⟩:=h;refine⟨⟨h1,h2,h3,b,o,h4,fun k s hs=>?_⟩,h6,fun b o e=>by obtain⟨cs,fr,hc⟩:=h7 b o e;exact⟨cs,fr,hk _ _ _ hc⟩⟩;have hlt:k<l.length:=(List.getElem?_eq_some_iff.1 hs).1;obtain⟨cs,fr,hc⟩:=h7 b o (h4 (by omega));rw[cell_keepS hk hc];exact h5 k s hs
theorem SlS.of_owns{w:World}{base:Nat}{v:Value}{n:Nat}{l:List ByteArray}(h:w.ownsRow base 9 1 v n (l.map Value.string)):∃ A cap,v=.slice A n cap∧SlS w A n cap l:=by
 obtain⟨hl,A,cap,rfl,hs⟩:=SlN.of_owns h;refine⟨A,cap,rfl,hs,fun e=>?_,fun b o e=>?_⟩
 · subst e;rcases h.2 with⟨hv,_⟩ | ⟨g,c,cur,hv,_⟩
   · cases hv;rfl
   · cases hv
 · subst e;rcases h.2 with⟨hv,_⟩ | ⟨g,c,cur,hv,_,hg,_⟩
   · cases hv
   · cases hv;exact⟨_,_,hg⟩
def dt(l:List ByteArray):List (List UInt8):=l.map fun s=>s.data.toList
theorem dt_snoc(l:List ByteArray)(s:ByteArray):dt (l++[s])=dt l++[s.data.toList]:=by simp[dt]
theorem dt_length(l:List ByteArray):(dt l).length=l.length:=by simp[dt]
theorem take_snocT{α:Type}{l:List α}{k:Nat}{y:α}(h:l[k]? =some y):l.take (k+1)=l.take k++[y]:=by
 obtain⟨h1,rfl⟩:=List.getElem?_eq_some_iff.1 h;exact List.take_succ_eq_append_getElem h1
theorem str_info:(Tryz.prog.info? 9).map (fun i=>(i.zero,i.size,i.bytes))=some (some (.string ⟨#[]⟩),1,16):=by kernel_rfl
theorem ptL_le{l:List ByteArray}{m:Nat}(h:∀ s∈l,s.size≤m)(k:Nat):(ptL (dt (l.take k))).length≤l.length * (8+m):=by
 rw[ptL_length,dt_length];have h1:((dt (l.take k)).map List.length).sum≤(dt (l.take k)).length * m:=sum_le_all fun s hs=>by
  obtain⟨x,hx,rfl⟩:=List.mem_map.1 hs;have:=h x (List.mem_of_mem_take hx);simpa[data_len]using this
 rw[dt_length]at h1;have h2:(l.take k).length≤l.length:=by rw[List.length_take];omega
 calc 8 * (l.take k).length+((dt (l.take k)).map List.length).sum≤8 * (l.take k).length+(l.take k).length * m:=Nat.add_le_add_left h1 _
  _=(l.take k).length * (8+m):=by rw[Nat.mul_add,Nat.mul_comm]
  _≤l.length * (8+m):=Nat.mul_le_mul_right _ h2
theorem tr_idS(s:ByteArray)(w:World):Calls Tryz.prog 237 #[.string s] w fun e w'=>e=.returned (.string s)∧w=w':=by
 go_enter Tryz.func237,Tryz.ntmps237;go_wp2;go_ret;exact⟨rfl,rfl⟩
theorem tr_idN(s:ByteArray)(w:World):Calls Tryz.prog 192 #[.string s] w fun e w'=>e=.returned (.string s)∧w=w':=by
 go_enter Tryz.func192,Tryz.ntmps192;go_wp2;go_ret;exact⟨rfl,rfl⟩
theorem full_run{ρ:Operand→Value}{o:Oper}(x y z:Operand)(hop:o.op=Op.slice 237 x none (some y) (some z)){A:Option Addr}{N c:Nat}(hx:ρ x=.slice A N c)(hy:ρ y=.int .i64 (N:Int))(hz:ρ z=.int .i64 (N:Int))(h:N≤c)(w:World):Sem.run Tryz.prog (execOp ρ o) w=Result.ok (.value (.slice A N N)) w:=by
 obtain⟨i0,hi,hz0,hz1,hz2⟩:=info_parts str_info;have ht:Tryz.prog.underlying 237=some (.slice (Tryz.prog.elem 237)):=by rw[show Tryz.prog.elem 237=9 from by kernel_rfl];exact Tryz.underlying237
 have he:(if (N:Int).toNat=0 then A else A.map fun x=>x.add (0 * i0.size))=A:=by
  split
  · rfl
  · cases A with
    | none=>rfl
    | some a=>simp[Addr.add]
 have hs:=run_slice_hm (P:=Tryz.prog) w 237 A N c ht .i64 .i64 (N:Int) (N:Int) (by omega) (by omega) (by omega);unfold execOp;simp only[hop,hx,hy,hz,Option.map_some,Option.map_none];rw[show Tryz.prog.elem 237=9 from by kernel_rfl]at hs ht;simp[run_sliceAt_slice,go_sem,run_underlying ht,hs,sizeOf,typeInfo,hi,sliced,he,Result.andThen]
theorem tr_framedS(k:UInt8)(A0:Option Addr)(n0 c0:Nat)(l0:List ByteArray)(A1:Option Addr)(n1 c1:Nat)(l1:List ByteArray)(hn:n0+n1≤1000)(hz:∀ s∈l0++l1,s.size≤1000000)(w:World)(h0:SlS w A0 n0 c0 l0)(h1:SlN w A1 n1 c1 l1) :
 Calls Tryz.prog 236 #[.int .u8 (k.toNat:Int),.slice A0 n0 c0,.slice A1 n1 c1,.func (.func 237) #[] #[]] w (Ret (.string (bstr (trH k (dt (l0++l1))))) w):=by
 obtain⟨i0,hi,hz0,hz1,hz2⟩:=info_parts str_info;have hib:=Lib.fresh_isBuilder 240 5 w;have hb0:Below w.heap.size w (w.alloc (.cells #[.pointer none,.slice none 0 0] 240)):=(Below.refl _ _).alloc (Nat.le_refl _) _;obtain⟨W0,hW0⟩:∃ W,w.alloc (.cells #[.pointer none,.slice none 0 0] 240)=W:=⟨_,rfl⟩;have hzw:w.heap.size≤W0.heap.size:=by rw[←hW0];simp
 rw[hW0]at hib hb0;have HIB:=Hq hib;have HB0:=Hq hb0;have HS0:=Hq (h0.kept hb0);have HM1:=Hq h1;have HZ0:=Hq hzw;have HSZ:=Hq hz;have HN:=Hq hn;have HL0:=Hq h0.1.1;have HL1:=Hq h1.1;clear hib hb0 h0 hzw hz h1;go_enter Tryz.func236,Tryz.ntmps236;go_wp2_with fail;try rw[hW0]
 clear hW0;refine(frb_WriteByte _ _ [] (k.toNat:Int) _ HIB.out (by simp) HZ0.out).mono ?_;rintro e w1 ⟨rfl,hi1,hb1,hk1⟩;have HI1:=Hq (show IsBuilder 240 5 w.heap.size w.heap.size (Lib.byteCells [k]) w1 from hi1);have HB1:=Hq (HB0.out.trans hb1);have HS1:=Hq (HS0.out.keptS hk1);have HZ1:=Hq (Nat.le_trans HZ0.out hb1.size);clear hi1 hb1 hk1;have h8:=fr_eight w.heap.size w.heap.size (Lib.byteCells [k]) (n0+n1) (by omega) w1 HI1.out (by simp[Lib.byteCells]) HZ1.out;rw[Int.natCast_add]at h8;have H8:=Hq h8;have hni:(n0:Int)+(n1:Int)≤1000:=by omega
 clear h8 hn;go_wp2_with fail;refine H8.out.mono ?_;rintro e w2 ⟨rfl,hi2,hb2,hk2⟩;have HI2:=Hq hi2;have HB2:=Hq (HB1.out.trans hb2);have HS2:=Hq (HS1.out.keptS hk2);have HZ2:=Hq (Nat.le_trans HZ1.out hb2.size);clear hi2 hb2 hk2;obtain⟨H,hH⟩:∃ H,Lib.byteCells [k]++Lib.byteCells (shE8 (n0+n1))=H:=⟨_,rfl⟩;have HH:=Hq hH;rw[hH]at HI2;clear hH;go_wp2;go_loopw [1,25] (fun v i wr=>∃(j c:Nat) (A:Option Addr),j≤n1∧i=.int .i64 j∧v=.slice A (n0+j) c∧SlS wr A (n0+j) c (l0++l1.take j)∧IsBuilder 240 5 w.heap.size w.heap.size H wr∧Below w.heap.size w wr∧w.heap.size≤wr.heap.size) (fun _ i _=>n1 - (RowKit.intOf i).toNat);case atStart=>exact⟨0,c0,A0,Nat.zero_le _,rfl,rfl,by simpa using HS2.out,HI2.out,HB2.out,HZ2.out⟩
 case round =>
  obtain⟨j,c,A,hj,rfl,rfl,hs,hib,hb,hzr⟩:=hrel;have HS:=Hq hs;have HIB:=Hq hib;have HB:=Hq hb;have HZR:=Hq hzr;clear hs hib hb hzr;by_cases hlt:j<n1
  · obtain⟨b1,o1,rfl⟩:=HM1.out.head (by omega);obtain⟨x,hx⟩:∃ x,l1[j]? =some x:=⟨_,List.getElem?_eq_getElem (by have:=HL1.out;omega)⟩;have hcx:=(HM1.out.kept HB.out (Nat.le_refl _)).get? j hx;have HX:=Hq hx;obtain⟨N,hN⟩:∃ N,n0+j=N:=⟨_,rfl⟩;have HNN:=Hq hN;rw[hN]at HS⊢;have hNc:N≤c:=HS.out.1.2.1;have HLT:=Hq hlt;clear hN hx hj;go_wp2;obtain⟨wd,hwd⟩:∃ wd,wr.drew=wd:=⟨_,rfl⟩;have hbd:Below wr.heap.size wr wd:=by rw[←hwd];exact(Below.refl _ _).drew
    have HSD:=Hq (HS.out.kept hbd);have HID:=Hq (show IsBuilder 240 5 w.heap.size w.heap.size H wd from by rw[←hwd];exact frb_drew HIB.out);have HBD:=Hq (HB.out.trans (hbd.mono HZR.out));have HZD:=Hq (Nat.le_trans HZR.out hbd.size);clear hbd hcx;refine wp_region_K 12 (fun _=>True) (by kernel_rfl) ?_;intro hD;rw[hwd];refine rP 0 29 11 rfl hD trivial ?_;clear hD;intro hD;simp only[Act.put,sqA,sqB,sqC];refine rP 1 30 10 rfl hD trivial ?_;clear hD;intro hD;simp only[Act.put,sqA,sqB,sqC];refine rP 2 31 9 rfl hD trivial ?_;clear hD;intro hD;simp only[Act.put,sqA,sqB,sqC];refine rP 3 32 8 rfl hD trivial ?_;clear hD;intro hD;simp only[Act.put,sqA,sqB,sqC];refine rP 4 33 7 rfl hD trivial ?_;clear hD;intro hD;simp only[Act.put,sqA,sqB,sqC];refine wpAnyK_takeSD (i:=5) (d:=some 34) (v:=(.slice A N N)) (fuel:=6) rfl (by kernel_rfl) (by kernel_rfl) (by kernel_rfl) (fun _ _ _ h=>h) hD trivial (.inl ⟨by kernel_rfl,?y7_5b1⟩) ?n7_5b1;case y7_5b1 =>
     intro w' _;exact full_run (.tmp 29) (.tmp 31) (.tmp 33) rfl rfl rfl rfl hNc w'
    clear hD;intro hD;simp only[Act.put,sqA,sqB,sqC];refine rP 6 35 5 rfl hD trivial ?_;clear hD;intro hD;simp only[Act.put,sqA,sqB,sqC];refine rP 7 36 4 rfl hD trivial ?_;clear hD;intro hD;simp only[Act.put,sqA,sqB,sqC];refine rO 8 3 rfl hD ?_;clear hD;intro K8 hK8;go_wp2_with fail;refine(tr_idS x _).mono ?_;rintro e w3 ⟨rfl,rfl⟩;go_wp2;refine hK8 _ _ (by trivial) ?_;clear hK8;intro hS_7_8 hD;refine rO 9 2 rfl hD ?_;clear hD;intro K9 hK9;go_wp2;refine hK9 _ _ (by trivial) ?_;clear hK9;intro hS_7_9 hD;refine rO 10 1 rfl hD ?_;clear hD;intro K10 hK10;refine wpList_append_grows _ rfl (.tmp 34) (.tmp 38) 237 rfl 9 i0 (.string ⟨#[]⟩) 1 16 Tryz.underlying237 hi hz0 hz1 hz2 rfl (by decide) A N N ((l0++l1.take j).map Value.string) rfl ?hnone ?hlo ?holds ⟨wd.heap.size,0,none⟩ 1 1 [.string x] rfl rfl ?c1 ?c2 (by omega) ?b1 ?b2 ?_;case hnone =>
     intro e;have h1:=HSD.out.2.1 e;have h2:=HSD.out.1.2.1;omega
    case hlo=>rw[List.length_map,HSD.out.1.1,Nat.mul_one]
    case holds =>
     intro b e i u hu;subst e;exact cell_kept ((Below.refl _ _).alloc (Nat.le_refl _) _) (Nat.le_refl _) (HSD.out.1.cells i u hu)
    case c1 =>
     intro i u hu
     match i,hu with
     | 0,hu=>simp at hu;subst hu;simp[Addr.add]
     | (i+1),hu=>simp at hu
    case c2=>intro u hu;simp at hu;subst hu;rfl
    case b1=>have:=HN.out;have:=HNN.out;have:=HLT.out;unfold maxLen;omega
    case b2=>have:=HN.out;have:=HNN.out;have:=HLT.out;omega
    intro v' w4 hown hgrow;obtain⟨A4,c4,rfl,hs4⟩:=SlS.of_owns (l:=l0++l1.take j++[x]) (by rw[List.map_append,List.map_singleton];exact hown);have hb4:Below wd.heap.size wd w4:=((Below.refl _ _).alloc (Nat.le_refl _) _).grown hgrow (by simp) (fun k e=>by cases e);have HS4:=Hq hs4;have HB4:=Hq hb4;clear hown hgrow hs4 hb4;go_wp2;refine hK10 _ _ (by trivial) ?_;clear hK10;intro hS_7_10 hD;refine rO 11 0 rfl hD ?_;clear hD;intro K11 hK11;go_wp2;refine hK11 _ _ (by trivial) ?_;clear hK11;intro hS_7_11 hD;refine wpAnyK_done (by kernel_rfl) ?_ 0;clear hD;go_wp2;go_roundw;case rel =>
     refine⟨j+1,c4,A4,HLT.out,by go_num,by rw[←HNN.out];rfl,?_,frb_kept HID.out HB4.out,HBD.out.trans (HB4.out.mono HZD.out),Nat.le_trans HZD.out HB4.out.size⟩;rw[take_snocT HX.out,←List.append_assoc,←Nat.add_assoc,HNN.out];exact HS4.out
    case measure=>have:=HLT.out;simp[RowKit.intOf];omega
  · obtain⟨N,hN⟩:∃ N,n0+n1=N:=⟨_,rfl⟩;have hjn:j=n1:=by omega
    have HS9:=Hq (show SlS wr A N c (l0++l1)from by
     have h:=HS.out;rw[hjn,hN,List.take_of_length_le (by rw[HL1.out];exact Nat.le_refl _)]at h
     exact h)
    rw[show n0+j=N from by omega];obtain⟨L,hL⟩:∃ L,l0++l1=L:=⟨_,rfl⟩;have HLL:=Hq (show L.length=N from by rw[←hL,List.length_append,HL0.out,HL1.out];exact hN);have HN9:=Hq (show N≤1000 from by have:=HN.out;omega);rw[hL]at HS9 HSZ;have HLE:=Hq hL;have HH9:=Hq (show H=Lib.byteCells (k::shE8 L.length)from by rw[←HH.out,HLL.out,←hN,←byteCells_append];rfl);clear hjn hN hj HS hL;go_wp2;clear hlt;go_loopw [43] (fun i wr=>∃ q:Nat,q≤N∧i=.int .i64 q∧SlS wr A N c L∧IsBuilder 240 5 w.heap.size w.heap.size (Lib.byteCells (k::shE8 L.length++ptL (dt (L.take q)))) wr∧Below w.heap.size w wr∧w.heap.size≤wr.heap.size) (fun i _=>N - (RowKit.intOf i).toNat);case atStart=>exact⟨0,Nat.zero_le _,rfl,HS9.out,by have:=HIB.out;rw[HH9.out]at this;simpa[dt,ptL]using this,HB.out,HZR.out⟩
    case round =>
     obtain⟨q,hq,rfl,hs,hib,hb,hzr⟩:=hrel;have HSQ:=Hq hs;have HIQ:=Hq hib;have HBQ:=Hq hb;have HZQ:=Hq hzr;clear hs hib hb hzr;by_cases hlt:q<N
     · obtain⟨b1,o1,rfl⟩:=HSQ.out.1.head (by omega);obtain⟨x,hx⟩:∃ x,L[q]? =some x:=⟨_,List.getElem?_eq_getElem (by have:=HLL.out;omega)⟩;have hcx:=HSQ.out.1.get? q hx;have hxs:x.size≤1000000:=HSZ.out x (List.mem_of_getElem? hx);have HPL:=Hq (ptL_le HSZ.out q);have HPN:=Hq (show L.length * (8+1000000)≤1000 * (8+1000000)from Nat.mul_le_mul_right _ (by rw[HLL.out];exact HN9.out));have HXQ:=Hq hx;have HLQ:=Hq hlt;have hq9:(q:Int)<1000:=by have:=HN9.out;omega
       obtain⟨pre,hpre⟩:∃ p,k::shE8 L.length++ptL (dt (L.take q))=p:=⟨_,rfl⟩;have HPP:=Hq hpre;rw[hpre]at HIQ;have HPR:=Hq (show pre.length≤2000000000 from by
        rw[←hpre];have h1:=HPL.out;have h2:=HPN.out;simp[shE8]
        omega)
       have h8:=fr_eight w.heap.size w.heap.size (Lib.byteCells pre) x.size (by omega) wr HIQ.out (by rw[byteCells_length];have:=HPR.out;omega) HZQ.out;have H8Q:=Hq h8;have HXS:=Hq hxs;clear hx hq h8 hpre hxs;go_wp2_with fail;refine H8Q.out.mono ?_;rintro e w3 ⟨rfl,hi3,hb3,hk3⟩;have HI3:=Hq hi3;have HB3:=Hq (HBQ.out.trans hb3);have HS3:=Hq (HSQ.out.keptS hk3);have HZ3:=Hq (Nat.le_trans HZQ.out hb3.size);clear hi3 hb3 hk3 hcx;go_wp2_with fail;refine(frb_WriteString _ _ _ x _ HI3.out (by rw[List.length_append,byteCells_length,byteCells_length];have:=HPR.out;have:=HXS.out;simp[shE8];omega) HZ3.out).mono ?_;rintro e w4 ⟨rfl,hi4,hb4,hk4⟩;rw[Lib.strCells_eq,←byteCells_append,←byteCells_append]at hi4;have HI4:=Hq hi4;have HB4:=Hq (HB3.out.trans hb4);have HS4:=Hq (HS3.out.keptS hk4);have HZ4:=Hq (Nat.le_trans HZ3.out hb4.size);clear hi4 hb4 hk4;go_wp2;go_roundw;case rel =>
        refine⟨q+1,HLQ.out,by go_num,HS4.out,?_,HB4.out,HZ4.out⟩;rw[take_snocT HXQ.out,dt_snoc,ptL_snoc,data_len,←List.append_assoc,←List.append_assoc,HPP.out];exact HI4.out
       case measure=>have:=HLQ.out;simp[RowKit.intOf];omega
     · have hqn:q=N:=by omega
       have HIZ:=Hq (show IsBuilder 240 5 w.heap.size w.heap.size (Lib.byteCells (frL k (dt L))) wr from by
        have h:=HIQ.out;rw[hqn,List.take_of_length_le (by rw[HLL.out];exact Nat.le_refl _)]at h;unfold frL;rw[dt_length]
        exact h)
       have HPL:=Hq (ptL_le HSZ.out N);have HPN:=Hq (show L.length * (8+1000000)≤1000 * (8+1000000)from Nat.mul_le_mul_right _ (by rw[HLL.out];exact HN9.out));have hfl:(frL k (dt L)).length≤1000000000000:=(by have h1:=HPL.out;have h2:=HPN.out;rw[List.take_of_length_le (by rw[HLL.out];exact Nat.le_refl _)]at h1;unfold frL;simp[shE8];omega);have HFL:=Hq hfl;obtain⟨F,hF⟩:∃ F,frL k (dt L)=F:=⟨_,rfl⟩;have HR:=Hq (show trH k (dt L)=shaL F from by rw[←hF];rfl);rw[hF]at HIZ HFL;clear hqn hfl hF HIQ hq HSQ;go_wp2_with fail;refine(frb_String _ _ F _ HIZ.out HZQ.out).mono ?_;rintro e w3 ⟨rfl,hk3⟩;have HB3:=Hq (HBQ.out.trans hk3.1);have HZ3:=Hq (Nat.le_trans HZQ.out hk3.1.size);clear hk3;have hsz:(bstr F).size≤1000000000000:=by rw[bstr_size];exact HFL.out
       have HSUM:=Hq (h_Sum (bstr F) hsz);rw[bstr_data]at HSUM;clear hsz;go_wp2_with fail;refine(HSUM.out _).mono ?_;rintro e w4 ⟨rfl,hb4⟩;have HB4:=Hq (HB3.out.trans (hb4.mono HZ3.out));clear hb4;go_wp2;go_ret;exact⟨by rw[HLE.out,HR.out];rfl,HB4.out⟩
theorem tr_framedN(k:UInt8)(A0:Option Addr)(n0 c0:Nat)(l0:List ByteArray)(A1:Option Addr)(n1 c1:Nat)(l1:List ByteArray)(hn:n0+n1≤1000)(hz:∀ s∈l0++l1,s.size≤1000000)(w:World)(h0:SlS w A0 n0 c0 l0)(h1:SlN w A1 n1 c1 l1) :
 Calls Tryz.prog 191 #[.int .u8 (k.toNat:Int),.slice A0 n0 c0,.slice A1 n1 c1,.func (.func 192) #[] #[]] w (Ret (.string (bstr (trH k (dt (l0++l1))))) w):=by
 obtain⟨i0,hi,hz0,hz1,hz2⟩:=info_parts str_info;have hib:=Lib.fresh_isBuilder 240 5 w;have hb0:Below w.heap.size w (w.alloc (.cells #[.pointer none,.slice none 0 0] 240)):=(Below.refl _ _).alloc (Nat.le_refl _) _;obtain⟨W0,hW0⟩:∃ W,w.alloc (.cells #[.pointer none,.slice none 0 0] 240)=W:=⟨_,rfl⟩;have hzw:w.heap.size≤W0.heap.size:=by rw[←hW0];simp
 rw[hW0]at hib hb0;have HIB:=Hq hib;have HB0:=Hq hb0;have HS0:=Hq (h0.kept hb0);have HM1:=Hq h1;have HZ0:=Hq hzw;have HSZ:=Hq hz;have HN:=Hq hn;have HL0:=Hq h0.1.1;have HL1:=Hq h1.1;clear hib hb0 h0 hzw hz h1;go_enter Tryz.func191,Tryz.ntmps191;go_wp2_with fail;try rw[hW0]
 clear hW0;refine(frb_WriteByte _ _ [] (k.toNat:Int) _ HIB.out (by simp) HZ0.out).mono ?_;rintro e w1 ⟨rfl,hi1,hb1,hk1⟩;have HI1:=Hq (show IsBuilder 240 5 w.heap.size w.heap.size (Lib.byteCells [k]) w1 from hi1);have HB1:=Hq (HB0.out.trans hb1);have HS1:=Hq (HS0.out.keptS hk1);have HZ1:=Hq (Nat.le_trans HZ0.out hb1.size);clear hi1 hb1 hk1;have h8:=fr_eight w.heap.size w.heap.size (Lib.byteCells [k]) (n0+n1) (by omega) w1 HI1.out (by simp[Lib.byteCells]) HZ1.out;rw[Int.natCast_add]at h8;have H8:=Hq h8;have hni:(n0:Int)+(n1:Int)≤1000:=by omega
 clear h8 hn;go_wp2_with fail;refine H8.out.mono ?_;rintro e w2 ⟨rfl,hi2,hb2,hk2⟩;have HI2:=Hq hi2;have HB2:=Hq (HB1.out.trans hb2);have HS2:=Hq (HS1.out.keptS hk2);have HZ2:=Hq (Nat.le_trans HZ1.out hb2.size);clear hi2 hb2 hk2;obtain⟨H,hH⟩:∃ H,Lib.byteCells [k]++Lib.byteCells (shE8 (n0+n1))=H:=⟨_,rfl⟩;have HH:=Hq hH;rw[hH]at HI2;clear hH;go_wp2;go_loopw [1,25] (fun v i wr=>∃(j c:Nat) (A:Option Addr),j≤n1∧i=.int .i64 j∧v=.slice A (n0+j) c∧SlS wr A (n0+j) c (l0++l1.take j)∧IsBuilder 240 5 w.heap.size w.heap.size H wr∧Below w.heap.size w wr∧w.heap.size≤wr.heap.size) (fun _ i _=>n1 - (RowKit.intOf i).toNat);case atStart=>exact⟨0,c0,A0,Nat.zero_le _,rfl,rfl,by simpa using HS2.out,HI2.out,HB2.out,HZ2.out⟩
 case round =>
  obtain⟨j,c,A,hj,rfl,rfl,hs,hib,hb,hzr⟩:=hrel;have HS:=Hq hs;have HIB:=Hq hib;have HB:=Hq hb;have HZR:=Hq hzr;clear hs hib hb hzr;by_cases hlt:j<n1
  · obtain⟨b1,o1,rfl⟩:=HM1.out.head (by omega);obtain⟨x,hx⟩:∃ x,l1[j]? =some x:=⟨_,List.getElem?_eq_getElem (by have:=HL1.out;omega)⟩;have hcx:=(HM1.out.kept HB.out (Nat.le_refl _)).get? j hx;have HX:=Hq hx;obtain⟨N,hN⟩:∃ N,n0+j=N:=⟨_,rfl⟩;have HNN:=Hq hN;rw[hN]at HS⊢;have hNc:N≤c:=HS.out.1.2.1;have HLT:=Hq hlt;clear hN hx hj;go_wp2;obtain⟨wd,hwd⟩:∃ wd,wr.drew=wd:=⟨_,rfl⟩;have hbd:Below wr.heap.size wr wd:=by rw[←hwd];exact(Below.refl _ _).drew
    have HSD:=Hq (HS.out.kept hbd);have HID:=Hq (show IsBuilder 240 5 w.heap.size w.heap.size H wd from by rw[←hwd];exact frb_drew HIB.out);have HBD:=Hq (HB.out.trans (hbd.mono HZR.out));have HZD:=Hq (Nat.le_trans HZR.out hbd.size);clear hbd hcx;refine wp_region_K 12 (fun _=>True) (by kernel_rfl) ?_;intro hD;rw[hwd];refine rP 0 29 11 rfl hD trivial ?_;clear hD;intro hD;simp only[Act.put,sqA,sqB,sqC];refine rP 1 30 10 rfl hD trivial ?_;clear hD;intro hD;simp only[Act.put,sqA,sqB,sqC];refine rP 2 31 9 rfl hD trivial ?_;clear hD;intro hD;simp only[Act.put,sqA,sqB,sqC];refine rP 3 32 8 rfl hD trivial ?_;clear hD;intro hD;simp only[Act.put,sqA,sqB,sqC];refine rP 4 33 7 rfl hD trivial ?_;clear hD;intro hD;simp only[Act.put,sqA,sqB,sqC];refine wpAnyK_takeSD (i:=5) (d:=some 34) (v:=(.slice A N N)) (fuel:=6) rfl (by kernel_rfl) (by kernel_rfl) (by kernel_rfl) (fun _ _ _ h=>h) hD trivial (.inl ⟨by kernel_rfl,?y7_5b2⟩) ?n7_5b2;case y7_5b2 =>
     intro w' _;exact full_run (.tmp 29) (.tmp 31) (.tmp 33) rfl rfl rfl rfl hNc w'
    clear hD;intro hD;simp only[Act.put,sqA,sqB,sqC];refine rP 6 35 5 rfl hD trivial ?_;clear hD;intro hD;simp only[Act.put,sqA,sqB,sqC];refine rP 7 36 4 rfl hD trivial ?_;clear hD;intro hD;simp only[Act.put,sqA,sqB,sqC];refine rO 8 3 rfl hD ?_;clear hD;intro K8 hK8;go_wp2_with fail;refine(tr_idN x _).mono ?_;rintro e w3 ⟨rfl,rfl⟩;go_wp2;refine hK8 _ _ (by trivial) ?_;clear hK8;intro hS_7_8 hD;refine rO 9 2 rfl hD ?_;clear hD;intro K9 hK9;go_wp2;refine hK9 _ _ (by trivial) ?_;clear hK9;intro hS_7_9 hD;refine rO 10 1 rfl hD ?_;clear hD;intro K10 hK10;refine wpList_append_grows _ rfl (.tmp 34) (.tmp 38) 237 rfl 9 i0 (.string ⟨#[]⟩) 1 16 Tryz.underlying237 hi hz0 hz1 hz2 rfl (by decide) A N N ((l0++l1.take j).map Value.string) rfl ?hnone ?hlo ?holds ⟨wd.heap.size,0,none⟩ 1 1 [.string x] rfl rfl ?c1 ?c2 (by omega) ?b1 ?b2 ?_;case hnone =>
     intro e;have h1:=HSD.out.2.1 e;have h2:=HSD.out.1.2.1;omega
    case hlo=>rw[List.length_map,HSD.out.1.1,Nat.mul_one]
    case holds =>
     intro b e i u hu;subst e;exact cell_kept ((Below.refl _ _).alloc (Nat.le_refl _) _) (Nat.le_refl _) (HSD.out.1.cells i u hu)
    case c1 =>
     intro i u hu
     match i,hu with
     | 0,hu=>simp at hu;subst hu;simp[Addr.add]
     | (i+1),hu=>simp at hu
    case c2=>intro u hu;simp at hu;subst hu;rfl
    case b1=>have:=HN.out;have:=HNN.out;have:=HLT.out;unfold maxLen;omega
    case b2=>have:=HN.out;have:=HNN.out;have:=HLT.out;omega
    intro v' w4 hown hgrow;obtain⟨A4,c4,rfl,hs4⟩:=SlS.of_owns (l:=l0++l1.take j++[x]) (by rw[List.map_append,List.map_singleton];exact hown);have hb4:Below wd.heap.size wd w4:=((Below.refl _ _).alloc (Nat.le_refl _) _).grown hgrow (by simp) (fun k e=>by cases e);have HS4:=Hq hs4;have HB4:=Hq hb4;clear hown hgrow hs4 hb4;go_wp2;refine hK10 _ _ (by trivial) ?_;clear hK10;intro hS_7_10 hD;refine rO 11 0 rfl hD ?_;clear hD;intro K11 hK11;go_wp2;refine hK11 _ _ (by trivial) ?_;clear hK11;intro hS_7_11 hD;refine wpAnyK_done (by kernel_rfl) ?_ 0;clear hD;go_wp2;go_roundw;case rel =>
     refine⟨j+1,c4,A4,HLT.out,by go_num,by rw[←HNN.out];rfl,?_,frb_kept HID.out HB4.out,HBD.out.trans (HB4.out.mono HZD.out),Nat.le_trans HZD.out HB4.out.size⟩;rw[take_snocT HX.out,←List.append_assoc,←Nat.add_assoc,HNN.out];exact HS4.out
    case measure=>have:=HLT.out;simp[RowKit.intOf];omega
  · obtain⟨N,hN⟩:∃ N,n0+n1=N:=⟨_,rfl⟩;have hjn:j=n1:=by omega
    have HS9:=Hq (show SlS wr A N c (l0++l1)from by
     have h:=HS.out;rw[hjn,hN,List.take_of_length_le (by rw[HL1.out];exact Nat.le_refl _)]at h
     exact h)
    rw[show n0+j=N from by omega];obtain⟨L,hL⟩:∃ L,l0++l1=L:=⟨_,rfl⟩;have HLL:=Hq (show L.length=N from by rw[←hL,List.length_append,HL0.out,HL1.out];exact hN);have HN9:=Hq (show N≤1000 from by have:=HN.out;omega);rw[hL]at HS9 HSZ;have HLE:=Hq hL;have HH9:=Hq (show H=Lib.byteCells (k::shE8 L.length)from by rw[←HH.out,HLL.out,←hN,←byteCells_append];rfl);clear hjn hN hj HS hL;go_wp2;clear hlt;go_loopw [43] (fun i wr=>∃ q:Nat,q≤N∧i=.int .i64 q∧SlS wr A N c L∧IsBuilder 240 5 w.heap.size w.heap.size (Lib.byteCells (k::shE8 L.length++ptL (dt (L.take q)))) wr∧Below w.heap.size w wr∧w.heap.size≤wr.heap.size) (fun i _=>N - (RowKit.intOf i).toNat);case atStart=>exact⟨0,Nat.zero_le _,rfl,HS9.out,by have:=HIB.out;rw[HH9.out]at this;simpa[dt,ptL]using this,HB.out,HZR.out⟩
    case round =>
     obtain⟨q,hq,rfl,hs,hib,hb,hzr⟩:=hrel;have HSQ:=Hq hs;have HIQ:=Hq hib;have HBQ:=Hq hb;have HZQ:=Hq hzr;clear hs hib hb hzr;by_cases hlt:q<N
     · obtain⟨b1,o1,rfl⟩:=HSQ.out.1.head (by omega);obtain⟨x,hx⟩:∃ x,L[q]? =some x:=⟨_,List.getElem?_eq_getElem (by have:=HLL.out;omega)⟩;have hcx:=HSQ.out.1.get? q hx;have hxs:x.size≤1000000:=HSZ.out x (List.mem_of_getElem? hx);have HPL:=Hq (ptL_le HSZ.out q);have HPN:=Hq (show L.length * (8+1000000)≤1000 * (8+1000000)from Nat.mul_le_mul_right _ (by rw[HLL.out];exact HN9.out));have HXQ:=Hq hx;have HLQ:=Hq hlt;have hq9:(q:Int)<1000:=by have:=HN9.out;omega
       obtain⟨pre,hpre⟩:∃ p,k::shE8 L.length++ptL (dt (L.take q))=p:=⟨_,rfl⟩;have HPP:=Hq hpre;rw[hpre]at HIQ;have HPR:=Hq (show pre.length≤2000000000 from by
        rw[←hpre];have h1:=HPL.out;have h2:=HPN.out;simp[shE8]
        omega)
       have h8:=fr_eight w.heap.size w.heap.size (Lib.byteCells pre) x.size (by omega) wr HIQ.out (by rw[byteCells_length];have:=HPR.out;omega) HZQ.out;have H8Q:=Hq h8;have HXS:=Hq hxs;clear hx hq h8 hpre hxs;go_wp2_with fail;refine H8Q.out.mono ?_;rintro e w3 ⟨rfl,hi3,hb3,hk3⟩;have HI3:=Hq hi3;have HB3:=Hq (HBQ.out.trans hb3);have HS3:=Hq (HSQ.out.keptS hk3);have HZ3:=Hq (Nat.le_trans HZQ.out hb3.size);clear hi3 hb3 hk3 hcx;go_wp2_with fail;refine(frb_WriteString _ _ _ x _ HI3.out (by rw[List.length_append,byteCells_length,byteCells_length];have:=HPR.out;have:=HXS.out;simp[shE8];omega) HZ3.out).mono ?_;rintro e w4 ⟨rfl,hi4,hb4,hk4⟩;rw[Lib.strCells_eq,←byteCells_append,←byteCells_append]at hi4;have HI4:=Hq hi4;have HB4:=Hq (HB3.out.trans hb4);have HS4:=Hq (HS3.out.keptS hk4);have HZ4:=Hq (Nat.le_trans HZ3.out hb4.size);clear hi4 hb4 hk4;go_wp2;go_roundw;case rel =>
        refine⟨q+1,HLQ.out,by go_num,HS4.out,?_,HB4.out,HZ4.out⟩;rw[take_snocT HXQ.out,dt_snoc,ptL_snoc,data_len,←List.append_assoc,←List.append_assoc,HPP.out];exact HI4.out
       case measure=>have:=HLQ.out;simp[RowKit.intOf];omega
     · have hqn:q=N:=by omega
       have HIZ:=Hq (show IsBuilder 240 5 w.heap.size w.heap.size (Lib.byteCells (frL k (dt L))) wr from by
        have h:=HIQ.out;rw[hqn,List.take_of_length_le (by rw[HLL.out];exact Nat.le_refl _)]at h;unfold frL;rw[dt_length]
        exact h)
       have HPL:=Hq (ptL_le HSZ.out N);have HPN:=Hq (show L.length * (8+1000000)≤1000 * (8+1000000)from Nat.mul_le_mul_right _ (by rw[HLL.out];exact HN9.out));have hfl:(frL k (dt L)).length≤1000000000000:=(by have h1:=HPL.out;have h2:=HPN.out;rw[List.take_of_length_le (by rw[HLL.out];exact Nat.le_refl _)]at h1;unfold frL;simp[shE8];omega);have HFL:=Hq hfl;obtain⟨F,hF⟩:∃ F,frL k (dt L)=F:=⟨_,rfl⟩;have HR:=Hq (show trH k (dt L)=shaL F from by rw[←hF];rfl);rw[hF]at HIZ HFL;clear hqn hfl hF HIQ hq HSQ;go_wp2_with fail;refine(frb_String _ _ F _ HIZ.out HZQ.out).mono ?_;rintro e w3 ⟨rfl,hk3⟩;have HB3:=Hq (HBQ.out.trans hk3.1);have HZ3:=Hq (Nat.le_trans HZQ.out hk3.1.size);clear hk3;have hsz:(bstr F).size≤1000000000000:=by rw[bstr_size];exact HFL.out
       have HSUM:=Hq (h_Sum (bstr F) hsz);rw[bstr_data]at HSUM;clear hsz;go_wp2_with fail;refine(HSUM.out _).mono ?_;rintro e w4 ⟨rfl,hb4⟩;have HB4:=Hq (HB3.out.trans (hb4.mono HZ3.out));clear hb4;go_wp2;go_ret;exact⟨by rw[HLE.out,HR.out];rfl,HB4.out⟩
set_option maxRecDepth 100000
set_option maxHeartbeats 2000000
theorem word_info:(Tryz.prog.info? 232).map (fun i=>(i.zero,i.size,i.bytes))=some (some (.int .u32 0),1,4):=by kernel_rfl
theorem make_words(n:Nat)(hn:n≤1000000)(w:World):(Instr.makeSlice 254 (.int .i64 n) (.int .i64 n)).run Tryz.prog w=.ok (.slice (some ⟨w.heap.size,0,none⟩) n n) (w.alloc (.cells (madeCells #[.int .u32 0] n) 232)):=by
 obtain⟨i0,hi,hz0,hz1,hz2⟩:=info_parts word_info;have h:=run_make (P:=Tryz.prog) w 254 232 i0 (.int .u32 0) Tryz.underlying254 hi hz0 .i64 .i64 (n:Int) (n:Int) (by omega) (Int.le_refl _) (by rw[hz2];omega) (by omega);rw[h,hz1,Int.toNat_natCast,Nat.mul_one];rfl
theorem index_byte_run{op:Oper}{ρ:Operand→Value}{w:World}(x i:Operand)(ho:op.op=.index 9 x i)(s:ByteArray)(p:Nat)(hx:ρ x=.string s)(hi:ρ i=.int .i64 (p:Int))(hp:p<s.size){v:Nat}(hv:(s.data.toList.getD p 0).toNat=v) :
 (execOp ρ op).run Tryz.prog w=.ok (.value (.int .u8 (v:Int))) w:=by
 subst hv;have h1:s[p]? =some s[p]:=by simp[hp]
 have h2:s.data.toList.getD p 0=s[p]:=data_getD s p hp;rw[h2];unfold execOp;simp[ho,hx,hi,Instr.index,asIntOf,run_underlying Tryz.underlying9,h1,Result.andThen]
theorem sched_val2(X16 X15 X7 X2:BitVec 32):(((wi X16+bits .xor .u32 (bits .xor .u32 (wi (rr X15 7)) (wi (rr X15 18))) (wi X15 / 8))%4294967296+wi X7)%4294967296+bits .xor .u32 (bits .xor .u32 (wi (rr X2 17)) (wi (rr X2 19))) (wi X2 / 1024))%4294967296=wi (X16+sg0 X15+X7+sg1 X2):=by
 rw[show (8:Int)=2 ^ 3 from rfl,show (1024:Int)=2 ^ 10 from rfl,wi_div,wi_div,wi_xor,wi_xor,wi_xor,wi_xor,mod_val,mod_val,mod_val];rfl
def pb(m:List UInt8)(i:Nat):Nat→Nat
 | 0=>0
 | q+1=>pb m i q * 256+(m.getD (4 * i+q) 0).toNat
theorem pb_four(m:List UInt8)(i:Nat):BitVec.ofNat 32 (pb m i 4)=wd m i:=by simp[pb,wd]
theorem step_val(p b:Nat):(wi (BitVec.ofNat 32 p) * 256%4294967296+(b:Int))%4294967296=wi (BitVec.ofNat 32 (p * 256+b)):=by
 unfold wi;rw[BitVec.toNat_ofNat,BitVec.toNat_ofNat];omega
def wq(m:List UInt8)(i q:Nat)(j:Nat):BitVec 32:=if j=i then BitVec.ofNat 32 (pb m i q)else wz m i j
theorem wq_zero(m:List UInt8)(i:Nat):wq m i 0=wz m i:=by
 funext j
 unfold wq wz;by_cases h:j=i
 · subst h;rw[if_pos rfl,if_neg (Nat.lt_irrefl _)];rfl
 · rw[if_neg h]
theorem wq_four(m:List UInt8)(i:Nat)(h:i<16):wq m i 4=wz m (i+1):=by
 funext j
 unfold wq wz;by_cases e:j=i
 · subst e;rw[if_pos rfl,if_pos (Nat.lt_succ_self _),pb_four,wv_low m h]
 · rw[if_neg e];by_cases h2:j<i
   · rw[if_pos h2,if_pos (by omega)]
   · rw[if_neg h2,if_neg (by omega)]
theorem r05_schedule(s:ByteArray)(hs:s.size=64)(w:World):Calls Tryz.prog 268 #[.string s] w fun e w'=>e=.returned (.slice (some ⟨w.heap.size,0,none⟩) 64 64)∧RowW w' w.heap.size 64 232 (wv s.data.toList)∧Below w.heap.size w w':=by
 obtain⟨m,hm⟩:∃ m,s.data.toList=m:=⟨_,rfl⟩;have HM:=Hq hm;rw[hm];clear hm;have hmk:(Instr.makeSlice 254 (.int .i64 64) (.int .i64 64)).run Tryz.prog w=.ok (.slice (some ⟨w.heap.size,0,none⟩) 64 64) (w.alloc (.cells (madeCells #[.int .u32 0] 64) 232)):=make_words 64 (by decide) w;obtain⟨w1,hw1⟩:∃ w1,w.alloc (.cells (madeCells #[.int .u32 0] 64) 232)=w1:=⟨_,rfl⟩;have HR1:=Hq (show RowW w1 w.heap.size 64 232 (wz m 0)from by
  rw[show wz m 0=fun _=>0 from funext fun j=>rfl];unfold RowW;rw[wa_zero,←hw1];exact heap_alloc_new _ _)
 have HB1:=Hq (show Below w.heap.size w w1 from hw1▸(Below.refl _ _).alloc (Nat.le_refl _) _);rw[hw1]at hmk;clear hw1;obtain⟨H,hH⟩:∃ H,w.heap.size=H:=⟨_,rfl⟩;rw[hH]at HR1 HB1 hmk⊢;go_enter Tryz.func268,Tryz.ntmps268;go_wp2;clear hmk;go_loopw [4] (fun i wr=>∃ k:Nat,k≤16∧i=.int .i64 k∧RowW wr H 64 232 (wz m k)∧Below H w wr) (fun i _=>16 - (RowKit.intOf i).toNat);case atStart=>exact⟨0,Nat.zero_le _,rfl,HR1.out,HB1.out⟩
 case round =>
  obtain⟨k,hk,rfl,hR,hBR⟩:=hrel;have HR:=Hq hR;have HB:=Hq hBR;clear hR hBR;by_cases hlt:k<16
  · have hlti:(k:Int)<16:=by omega
    have hk64:(k:Int)<64:=by omega
    go_wp2;go_loopw [5] (fun i wr=>∃ q:Nat,q≤4∧i=.int .i64 q∧RowW wr H 64 232 (wq m k q)∧Below H w wr) (fun i _=>4 - (RowKit.intOf i).toNat);case atStart=>exact⟨0,Nat.zero_le _,rfl,by rw[wq_zero];exact HR.out,HB.out⟩
    case round =>
     obtain⟨q,hq,rfl,hR,hBR⟩:=hrel;have HR:=Hq hR;have HB:=Hq hBR;clear hR hBR;by_cases hq4:q<4
     · have hq4i:(q:Int)<4:=by omega
       have c0:=HR.out.drew.cell (show k<64 by omega);have hf:=HR.out.drew.free k;rw[show wq m k q k=BitVec.ofNat 32 (pb m k q)from by unfold wq;rw[if_pos rfl]]at c0;obtain⟨y,hy⟩:∃ y,BitVec.ofNat 32 (pb m k q)=y:=⟨_,rfl⟩;rw[hy]at c0;have HY:=Hq hy;clear hy;obtain⟨p,hp⟩:∃ p,4 * k+q=p:=⟨_,rfl⟩;have hpi:4 * (k:Int)+(q:Int)=(p:Int):=by omega
       have hp64:(p:Int)<64:=by omega
       have hwa:IntKind.i64.wrap (4 * (k:Int))=4 * (k:Int):=by rw[IntKind.wrap_i64];omega
       have hwb:IntKind.i64.wrap (p:Int)=(p:Int):=by rw[IntKind.wrap_i64];omega
       have HPS:=Hq (show p<s.size from by omega);obtain⟨x,hx⟩:∃ x,(m.getD p 0).toNat=x:=⟨_,rfl⟩;have hx255:x≤255:=by rw[←hx];have:=(m.getD p 0).toNat_lt;omega
       have HXX:=Hq hx;have HP:=Hq hp;clear hx hp;obtain⟨wd,hwd⟩:∃ wd,wr.drew=wd:=⟨_,rfl⟩;rw[hwd]at c0 hf;go_wp2;refine wp_region_K 16 (Eq wd) (by kernel_rfl) ?_;intro hD;rw[hwd];refine qPD 0 20 16 rfl hD rfl ?_;clear hD;intro hD;simp only[Act.put,sqA,sqB,sqC];refine qPD 1 21 15 rfl hD rfl ?_;clear hD;intro hD;simp only[Act.put,sqA,sqB,sqC];refine qPD 2 22 14 rfl hD rfl ?_;clear hD;intro hD;simp only[Act.put,sqA,sqB,sqC];refine qPD 3 23 13 rfl hD rfl ?_;clear hD;intro hD;simp only[Act.put,sqA,sqB,sqC];refine qPD 4 24 12 rfl hD rfl ?_;clear hD;intro hD;simp only[Act.put,sqA,sqB,sqC];refine qTD 5 25 11 rfl hD rfl (by intro w' hS';have e0:=(hS'▸c0);go_simp;with_reducible rfl) ?_;clear hD;intro hD;simp only[Act.put,sqA,sqB,sqC];refine qPD 6 26 10 rfl hD rfl ?_;clear hD;intro hD;simp only[Act.put,sqA,sqB,sqC];refine qPD 7 27 9 rfl hD rfl ?_;clear hD;intro hD;simp only[Act.put,sqA,sqB,sqC];refine qPD 8 28 8 rfl hD rfl ?_;clear hD;intro hD;simp only[Act.put,sqA,sqB,sqC];refine qPD 9 29 7 rfl hD rfl ?_;clear hD;intro hD;simp only[Act.put,sqA,sqB,sqC];refine qPD 10 30 6 rfl hD rfl ?_;clear hD;intro hD;simp only[Act.put,sqA,sqB,sqC];refine qPD 11 31 5 rfl hD rfl ?_;clear hD;intro hD;simp only[Act.put,sqA,sqB,sqC];refine wpAnyK_takeD (i:=12) (d:=some 32) (v:=(.int .u8 (x:Int))) (fuel:=4) rfl (by kernel_rfl) (by kernel_rfl) (by kernel_rfl) (fun _ _ _ h=>h) hD rfl (.inl ⟨by kernel_rfl,?y8_12b1⟩) ?n8_12b1;case y8_12b1 =>
        intro w' hS';exact index_byte_run (.tmp 27) (.tmp 31) rfl s p rfl rfl HPS.out (by rw[HM.out];exact HXX.out)
       clear hD;intro hD;simp only[Act.put,sqA,sqB,sqC];refine qPD 13 33 3 rfl hD rfl ?_;clear hD;intro hD;simp only[Act.put,sqA,sqB,sqC];refine qPD 14 34 2 rfl hD rfl ?_;clear hD;intro hD;simp only[Act.put,sqA,sqB,sqC];refine qPD 15 35 1 rfl hD rfl ?_;clear hD;intro hD;simp only[Act.put,sqA,sqB,sqC];refine wpAnyK_oneT (i:=16) (fuel:=0) (by kernel_rfl) rfl hD (by kernel_rfl) ?_;clear hD;intro K16 hK16;go_wp2;refine hK16 _ _ ?_;clear hK16;intro hD;refine wpAnyK_done (by kernel_rfl) ?_ 0;clear hD;rw[←HY.out,step_val];obtain⟨V,hV⟩:∃ V,BitVec.ofNat 32 (pb m k q * 256+x)=V:=⟨_,rfl⟩;have HV:=Hq hV;rw[hV,HY.out];clear hV;go_wp2;go_roundw;case rel =>
        refine⟨q+1,by omega,by go_num,?_,?_⟩
        · rw[←hwd];refine(HR.out.drew.set k V).congr fun j hj=>?_;unfold wq;by_cases e:j=k
          · rw[if_pos e,if_pos e,←HV.out,←HXX.out,←HP.out];rfl
          · rw[if_neg e,if_neg e,if_neg e]
        · rw[←hwd];exact HB.out.drew.setCell (Nat.le_refl _) _
       case measure=>simp[RowKit.intOf];omega
     · have HQ:=Hq (show q=4 from by omega);have hq4i:¬ ((q:Int)<4):=by omega
       have HR2:=Hq (show RowW wr H 64 232 (wz m (k+1))from by rw[←wq_four m k hlt,←HQ.out];exact HR.out);clear hq hq4 HQ HR;go_wp2;go_roundw;case rel=>exact⟨k+1,by omega,by go_num,HR2.out,HB.out⟩
       case measure=>simp[RowKit.intOf];omega
  · have HK:=Hq (show k=16 from by omega);have hge:¬ ((k:Int)<16):=by omega
    have HR2:=Hq (show RowW wr H 64 232 (wz m 16)from by rw[←HK.out];exact HR.out);clear hk hlt HK HR;go_wp2;go_loopw [6] (fun i wr=>∃ k:Nat,16≤k∧k≤64∧i=.int .i64 k∧RowW wr H 64 232 (wz m k)∧Below H w wr) (fun i _=>64 - (RowKit.intOf i).toNat);case atStart=>exact⟨16,Nat.le_refl _,by omega,rfl,HR2.out,HB.out⟩
    case round =>
     obtain⟨k,hk0,hk,rfl,hR,hBR⟩:=hrel;have HR:=Hq hR;have HB:=Hq hBR;clear hR hBR;by_cases hlt:k<64
     · have hlti:(k:Int)<64:=by omega
       obtain⟨q15,hq15⟩:∃ q,k - 15=q:=⟨_,rfl⟩;obtain⟨q2,hq2⟩:∃ q,k - 2=q:=⟨_,rfl⟩;obtain⟨q16,hq16⟩:∃ q,k - 16=q:=⟨_,rfl⟩;obtain⟨q7,hq7⟩:∃ q,k - 7=q:=⟨_,rfl⟩;have i15:(k:Int) - 15=(q15:Int):=by omega
       have i2:(k:Int) - 2=(q2:Int):=by omega
       have i16:(k:Int) - 16=(q16:Int):=by omega
       have i7:(k:Int) - 7=(q7:Int):=by omega
       have l15:(q15:Int)<64:=by omega
       have l2:(q2:Int)<64:=by omega
       have l16:(q16:Int)<64:=by omega
       have l7:(q7:Int)<64:=by omega
       have v15:IntKind.i64.wrap (q15:Int)=(q15:Int):=by rw[IntKind.wrap_i64];omega
       have v2:IntKind.i64.wrap (q2:Int)=(q2:Int):=by rw[IntKind.wrap_i64];omega
       have v16:IntKind.i64.wrap (q16:Int)=(q16:Int):=by rw[IntKind.wrap_i64];omega
       have v7:IntKind.i64.wrap (q7:Int)=(q7:Int):=by rw[IntKind.wrap_i64];omega
       have HV:=Hq (show wv m k=wz m k q16+sg0 (wz m k q15)+wz m k q7+sg1 (wz m k q2)from by
        unfold wz;rw[if_pos (by omega),if_pos (by omega),if_pos (by omega),if_pos (by omega),wv_high m hk0,hq15,hq2,hq16,hq7])
       have c15:=HR.out.drew.cell (show q15<64 by omega);have c2:=HR.out.drew.cell (show q2<64 by omega);have L16:=Hq (show q16<64 from by omega);have L7:=Hq (show q7<64 from by omega);obtain⟨X15,hX15⟩:∃ X,wz m k q15=X:=⟨_,rfl⟩;obtain⟨X2,hX2⟩:∃ X,wz m k q2=X:=⟨_,rfl⟩;obtain⟨X16,hX16⟩:∃ X,wz m k q16=X:=⟨_,rfl⟩;obtain⟨X7,hX7⟩:∃ X,wz m k q7=X:=⟨_,rfl⟩;rw[hX15,hX2,hX16,hX7]at HV;rw[hX15]at c15;rw[hX2]at c2;have HX16:=Hq hX16;have HX7:=Hq hX7;clear hX15 hX2 hX16 hX7 hq15 hq2 hq16 hq7;obtain⟨wd,hwd⟩:∃ wd,wr.drew=wd:=⟨_,rfl⟩;have HRD:=Hq (show RowW wd H 64 232 (wz m k)from by rw[←hwd];exact HR.out.drew);have HBD:=Hq (show Below H w wd from by rw[←hwd];exact HB.out.drew);rw[hwd]at c15 c2;go_wp2;refine wp_region_K 12 (Eq wd) (by kernel_rfl) ?_;intro hD;rw[hwd];refine rP 0 40 11 rfl hD rfl ?_;clear hD;intro hD;simp only[Act.put,sqA,sqB,sqC];refine rP 1 41 10 rfl hD rfl ?_;clear hD;intro hD;simp only[Act.put,sqA,sqB,sqC];refine rP 2 42 9 rfl hD rfl ?_;clear hD;intro hD;simp only[Act.put,sqA,sqB,sqC];refine rP 3 43 8 rfl hD rfl ?_;clear hD;intro hD;simp only[Act.put,sqA,sqB,sqC];refine rT 4 44 7 rfl hD rfl (by intro w' hS';have e0:=(hS'▸c15);have e1:=(hS'▸c2);go_simp;with_reducible rfl) ?_;clear hD;intro hD;simp only[Act.put,sqA,sqB,sqC];refine rP 5 45 6 rfl hD rfl ?_;clear hD;intro hD;simp only[Act.put,sqA,sqB,sqC];refine rP 6 46 5 rfl hD rfl ?_;clear hD;intro hD;simp only[Act.put,sqA,sqB,sqC];refine rP 7 47 4 rfl hD rfl ?_;clear hD;intro hD;simp only[Act.put,sqA,sqB,sqC];refine rP 8 48 3 rfl hD rfl ?_;clear hD;intro hD;simp only[Act.put,sqA,sqB,sqC];refine rT 9 49 2 rfl hD rfl (by intro w' hS';have e0:=(hS'▸c15);have e1:=(hS'▸c2);go_simp;with_reducible rfl) ?_;clear hD;intro hD;simp only[Act.put,sqA,sqB,sqC];refine rO 10 1 rfl hD ?_;clear hD;intro K10 hK10;go_wp2;refine hK10 _ _ (by rfl) ?_;clear hK10;intro hS_12_10 hD;refine rO 11 0 rfl hD ?_;clear hD;intro K11 hK11;go_wp2;refine hK11 _ _ (by rfl) ?_;clear hK11;intro hS_12_11 hD;refine wpAnyK_done (by kernel_rfl) ?_ 0;clear hD;clear c15 c2 hwd;go_wp2_with fail;refine(r05_right X15 7 (by decide) (by decide) _).mono ?_;rintro e' w1 ⟨rfl,hb1⟩;go_wp2_with fail;refine(r05_right X15 18 (by decide) (by decide) _).mono ?_;rintro e' w2 ⟨rfl,hb2⟩;go_wp2_with fail;refine(r05_right X2 17 (by decide) (by decide) _).mono ?_;rintro e' w3 ⟨rfl,hb3⟩;go_wp2_with fail;refine(r05_right X2 19 (by decide) (by decide) _).mono ?_;rintro e' w4 ⟨rfl,hb4⟩;have HB4:=Hq (show Below wd.heap.size wd w4 from((hb1.trans (hb2.mono hb1.size)).trans (hb3.mono (by have:=hb1.size;have:=hb2.size;omega))).trans (hb4.mono (by have:=hb1.size;have:=hb2.size;have:=hb3.size;omega)));clear hb1 hb2 hb3 hb4;have HR4:=Hq (HRD.out.kept HB4.out HRD.out.lt);have HBB:=Hq (HBD.out.trans (HB4.out.mono (by have:=HRD.out.lt;omega)));have c16:=HR4.out.drew.cell L16.out;have c7:=HR4.out.drew.cell L7.out;have hf:=HR4.out.drew.free k;have hcw:=HR4.out.drew.cell (show k<64 by omega);rw[HX16.out]at c16;rw[HX7.out]at c7;obtain⟨we,hwe⟩:∃ we,w4.drew=we:=⟨_,rfl⟩;rw[hwe]at c16 c7 hf hcw;go_wp2;refine wp_region_K 18 (Eq we) (by kernel_rfl) ?_;intro hD;rw[hwe];refine qPD 0 66 18 rfl hD rfl ?_;clear hD;intro hD;simp only[Act.put,sqA,sqB,sqC];refine qPD 1 67 17 rfl hD rfl ?_;clear hD;intro hD;simp only[Act.put,sqA,sqB,sqC];refine qPD 2 68 16 rfl hD rfl ?_;clear hD;intro hD;simp only[Act.put,sqA,sqB,sqC];refine qPD 3 69 15 rfl hD rfl ?_;clear hD;intro hD;simp only[Act.put,sqA,sqB,sqC];refine qPD 4 70 14 rfl hD rfl ?_;clear hD;intro hD;simp only[Act.put,sqA,sqB,sqC];refine qPD 5 71 13 rfl hD rfl ?_;clear hD;intro hD;simp only[Act.put,sqA,sqB,sqC];refine qTD 6 72 12 rfl hD rfl (by intro w' hS';have e0:=(hS'▸c16);have e1:=(hS'▸c7);go_simp;with_reducible rfl) ?_;clear hD;intro hD;simp only[Act.put,sqA,sqB,sqC];refine qPD 7 73 11 rfl hD rfl ?_;clear hD;intro hD;simp only[Act.put,sqA,sqB,sqC];refine qPD 8 74 10 rfl hD rfl ?_;clear hD;intro hD;simp only[Act.put,sqA,sqB,sqC];refine qPD 9 75 9 rfl hD rfl ?_;clear hD;intro hD;simp only[Act.put,sqA,sqB,sqC];refine qPD 10 76 8 rfl hD rfl ?_;clear hD;intro hD;simp only[Act.put,sqA,sqB,sqC];refine qPD 11 77 7 rfl hD rfl ?_;clear hD;intro hD;simp only[Act.put,sqA,sqB,sqC];refine qPD 12 78 6 rfl hD rfl ?_;clear hD;intro hD;simp only[Act.put,sqA,sqB,sqC];refine qTD 13 79 5 rfl hD rfl (by intro w' hS';have e0:=(hS'▸c16);have e1:=(hS'▸c7);go_simp;with_reducible rfl) ?_;clear hD;intro hD;simp only[Act.put,sqA,sqB,sqC];refine qPD 14 80 4 rfl hD rfl ?_;clear hD;intro hD;simp only[Act.put,sqA,sqB,sqC];refine qPD 15 81 3 rfl hD rfl ?_;clear hD;intro hD;simp only[Act.put,sqA,sqB,sqC];refine qPD 16 82 2 rfl hD rfl ?_;clear hD;intro hD;simp only[Act.put,sqA,sqB,sqC];refine qPD 17 83 1 rfl hD rfl ?_;clear hD;intro hD;simp only[Act.put,sqA,sqB,sqC];refine wpAnyK_oneT (i:=18) (fuel:=0) (by kernel_rfl) rfl hD (by kernel_rfl) ?_;clear hD;intro K18 hK18;go_wp2;refine hK18 _ _ ?_;clear hK18;intro hD;refine wpAnyK_done (by kernel_rfl) ?_ 0;clear hD;clear i15 i2 i16 i7 l15 l2 l16 l7 v15 v2 v16 v7 c16 c7 hf hcw;rw[sched_val2,←HV.out];obtain⟨V,hV⟩:∃ V,wv m k=V:=⟨_,rfl⟩;rw[hV];have HVV:=Hq hV;clear hV HV;go_wp2;go_roundw;case rel =>
        refine⟨k+1,by omega,by omega,by go_num,?_,?_⟩
        · rw[←hwe];refine(HR4.out.drew.set k V).congr fun i hi=>?_;unfold wz;by_cases e:i=k
          · rw[if_pos e,if_pos (by omega),e,HVV.out]
          · rw[if_neg e];by_cases h:i<k
            · rw[if_pos h,if_pos (by omega)]
            · rw[if_neg h,if_neg (by omega)]
        · rw[←hwe];exact HBB.out.drew.setCell (Nat.le_refl _) _
       case measure=>simp[RowKit.intOf];omega
     · have HK:=Hq (show k=64 from by omega);have hge:¬ ((k:Int)<64):=by omega
       have HR3:=Hq (show RowW wr H 64 232 (wv m)from HR.out.congr fun i hi=>by unfold wz;rw[if_pos (by have:=HK.out;omega)]);clear hk0 hk hlt HK;go_wp2;go_ret;exact⟨rfl,HR3.out,HB.out⟩
set_option maxRecDepth 100000
set_option maxHeartbeats 2000000
def RowV8(w:World)(g c:Nat)(f:Nat→BitVec 32):Prop:=∃ cur:Array Value,w.heap[g]? =some (.cells cur 232 (0,0))∧cur.size=c∧8≤c∧c≤9223372036854775807∧∀ j,j<8→cur[j]? =some (.int .u32 (wi (f j)))
theorem RowV8.cell{w:World}{g c:Nat}{f:Nat→BitVec 32}(h:RowV8 w g c f){k:Nat}(hk:k<8):w.cell? ⟨g,k,none⟩=some (.int .u32 (wi (f k))):=by
 obtain⟨cur,h1,_,_,_,h2⟩:=h;rw[Lib.cell_of_heap h1];exact h2 k hk
theorem RowV8.free{w:World}{g c:Nat}{f:Nat→BitVec 32}(h:RowV8 w g c f)(k:Nat):w.frozen? ⟨g,k,none⟩=false:=by
 obtain⟨cur,h1,_⟩:=h;exact Lib.frozen_of_heap h1 k
theorem RowV8.kept{w w':World}{K g c:Nat}{f:Nat→BitVec 32}(h:RowV8 w g c f)(hb:Below K w w')(hB:g<K):RowV8 w' g c f:=by
 obtain⟨cur,h1,h2⟩:=h;exact⟨cur,(hb.block g hB).trans h1,h2⟩
theorem RowV8.drew{w:World}{g c:Nat}{f:Nat→BitVec 32}(h:RowV8 w g c f):RowV8 w.drew g c f:=h
theorem RowV8.lt{w:World}{g c:Nat}{f:Nat→BitVec 32}(h:RowV8 w g c f):g<w.heap.size:=by
 obtain⟨cur,h1,_⟩:=h;exact block_lt h1
theorem RowV8.congr{w:World}{g c:Nat}{f f':Nat→BitVec 32}(h:RowV8 w g c f)(hf:∀ j,j<8→f j=f' j):RowV8 w g c f':=by
 obtain⟨cur,h1,h2,h3,h4,h5⟩:=h;exact⟨cur,h1,h2,h3,h4,fun j hj=>by rw[h5 j hj,hf j hj]⟩
theorem RowV8.set{w:World}{g c:Nat}{f:Nat→BitVec 32}(h:RowV8 w g c f)(k:Nat)(x:BitVec 32):RowV8 (w.setCell ⟨g,k,none⟩ (.int .u32 (wi x))) g c (fun j=>if j=k then x else f j):=by
 obtain⟨cur,h1,h2,h3,h4,h5⟩:=h;refine⟨_,block_setCell h1 _,by rw[Array.size_setIfInBounds,h2],h3,h4,fun j hj=>?_⟩;rw[Array.getElem?_setIfInBounds];simp only[];by_cases e:k=j
 · subst e;rw[if_pos rfl,if_pos (by omega),if_pos rfl]
 · rw[if_neg e,if_neg (Ne.symm e)];exact h5 j hj
theorem RowV8.of{w:World}{g:Nat}{f:Nat→BitVec 32}(h:RowW w g 8 232 f):RowV8 w g 8 f:=⟨_,h,wa_size _ _,Nat.le_refl _,by omega,fun j hj=>wa_get f hj⟩
theorem RowV8.c8{w:World}{B c':Nat}{a b c d e f g h:BitVec 32}(H:RowV8 w B c' (W8.at ⟨a,b,c,d,e,f,g,h⟩)):w.cell? ⟨B,0,none⟩=some (.int .u32 (wi a))∧w.cell? ⟨B,1,none⟩=some (.int .u32 (wi b))∧w.cell? ⟨B,2,none⟩=some (.int .u32 (wi c))∧w.cell? ⟨B,3,none⟩=some (.int .u32 (wi d))∧w.cell? ⟨B,4,none⟩=some (.int .u32 (wi e))∧w.cell? ⟨B,5,none⟩=some (.int .u32 (wi f))∧w.cell? ⟨B,6,none⟩=some (.int .u32 (wi g))∧w.cell? ⟨B,7,none⟩=some (.int .u32 (wi h)):=
 ⟨H.cell (k:=0) (by decide),H.cell (k:=1) (by decide),H.cell (k:=2) (by decide),H.cell (k:=3) (by decide),H.cell (k:=4) (by decide),H.cell (k:=5) (by decide),H.cell (k:=6) (by decide),H.cell (k:=7) (by decide)⟩
theorem wpList_append_state(w0:World){ops:Array Oper}{rest:List Oper}{o:Oper}{a:Act}{Q:Exit→Act→World→Prop}(hg:o.guard=none)(s x:Operand)(hop:o.op=Op.call { callee:=Callee.builtin Builtin.append,args:=#[s,x],argTypes:=#[254,254] })
 (hs:a.eval s=.slice (some ⟨w0.heap.size,0,none⟩) 0 0) (b c:Nat) (S:W8) (hx:a.eval x=.slice (some ⟨b,0,none⟩) 8 c) (hv:RowV8 w0 b c S.at)
 (hK:∀ g c' w',RowV8 w' g c' S.at→w0.heap.size≤g→Below w0.heap.size w0 w'→wpList Tryz.prog ops Q rest (a.put o.dst (.slice (some ⟨g,0,none⟩) 8 c')) w'):wpList Tryz.prog ops Q (o::rest) a (w0.alloc (.cells #[] 232)):=by
 obtain⟨i0,hi,hz0,hz1,hz2⟩:=info_parts word_info;have hml:maxLen=9223372036854775807:=rfl;refine wpList_append_lies (w0.alloc (.cells #[] 232)) hg s x 254 hop w0.heap.size 232 i0 (.int .u32 0) 1 4 Tryz.underlying254 hi hz0 hz1 hz2 rfl (by decide) _ 0 [] hs (World.ownsRow_made w0 #[] 0 (Nat.le_refl _) (by omega) rfl) ⟨b,0,none⟩ 8 c S.arr.toList hx rfl (fun j u hj=>?_) (by have:=W8.arr_one S;rw[Array.all_eq_true']at this;intro u hu;exact this u (by simpa using hu)) (by decide) (by omega) (by omega) (by simp) _ rfl (fun g cap w' h1 h2 h3 h4=>hK g cap w' ?_ ?_ ?_)
 · have hj8:j<8:=(List.getElem?_eq_some_iff.1 hj).1;rw[Addr.add_lit,Nat.zero_add];have:=(hv.kept ((Below.refl _ _).alloc (Nat.le_refl _) (.cells #[] 232)) hv.lt).cell hj8;rw[this,←hj];have e:S.arr.toList[j]? =(wa 8 S.at)[j]?:=by rw[←W8.arr_wa];simp
   rw[e,wa_get _ hj8]
 · rcases h1.2 with⟨h,_⟩ | ⟨g',cap',cur,hv',hb',hg',q1,q2,q3,q4⟩
   · cases h
   · cases hv';refine⟨cur,hg',by omega,by omega,by omega,fun j hj=>?_⟩;have:=congrArg (fun l=>l[j]?) q4;simp only[List.nil_append]at this;rw[List.getElem?_take,if_pos (by omega),Array.getElem?_toList]at this;rw[this];have e:S.arr.toList[j]? =(wa 8 S.at)[j]?:=by rw[←W8.arr_wa];simp
     rw[e,wa_get _ hj]
 · exact(h1.lt g rfl).1
 · exact((Below.refl _ _).alloc (Nat.le_refl _) _).trans ⟨h2.os,h2.tape,h2.output,h2.size,fun k hk=>h2.block k (by have:=World.size_alloc w0 (.cells #[] 232);omega) (fun e=>by have : k=w0.heap.size:=Option.some.inj e;omega)⟩
theorem tv_val2(e f g h k w:BitVec 32):((((wi h+bits .xor .u32 (bits .xor .u32 (wi (rr e 6)) (wi (rr e 11))) (wi (rr e 25)))%4294967296+bits .xor .u32 (bits .and .u32 (wi e) (wi f)) (bits .and .u32 (bits .xor .u32 IntKind.u32.max (wi e)) (wi g)))%4294967296+wi k)%4294967296+wi w)%4294967296 =
 wi (h+(rr e 6 ^^^ rr e 11 ^^^ rr e 25)+(e &&& f ^^^ ~~~ e &&& g)+k+w):=by
 rw[u32_max,wi_not,wi_xor,wi_xor,wi_and,wi_and,wi_xor,mod_val,mod_val,mod_val,mod_val]
theorem tu_val(t a b c:BitVec 32):(wi t+(bits .xor .u32 (bits .xor .u32 (wi (rr a 2)) (wi (rr a 13))) (wi (rr a 22))+bits .xor .u32 (bits .xor .u32 (bits .and .u32 (wi a) (wi b)) (bits .and .u32 (wi a) (wi c))) (bits .and .u32 (wi b) (wi c))))%4294967296 =
 wi (t+((rr a 2 ^^^ rr a 13 ^^^ rr a 22)+(a &&& b ^^^ a &&& c ^^^ b &&& c))):=by
 rw[←mod_val,←uv_val];omega
theorem RowV8.new(w:World)(S:W8):RowV8 (w.alloc (.cells S.arr 232)) w.heap.size 8 S.at:=RowV8.of (by unfold RowW;rw[←W8.arr_wa];exact heap_alloc_new _ _)
theorem below_up{a w w':World}{B:Nat}(h:Below B a w)(hB:B≤w.heap.size)(hb:Below w.heap.size w w'):Below B a w':=h.trans (hb.mono hB)
theorem r05_compress(S:W8)(s:ByteArray)(hs:s.size=64)(b c:Nat)(w:World)(hv:RowV8 w b c S.at):Calls Tryz.prog 262 #[.slice (some ⟨b,0,none⟩) 8 c,.string s] w fun e w'=>∃ g c',e=.returned (.slice (some ⟨g,0,none⟩) 8 c')∧RowV8 w' g c' (blk S s.data.toList).at∧w.heap.size≤g∧Below w.heap.size w w':=by
 have HV:=Hq hv;have HS:=Hq hs;clear hv hs;obtain⟨Y,hY⟩:∃ Y,blk S s.data.toList=Y:=⟨_,rfl⟩;have HY:=Hq hY;rw[hY];clear hY;go_enter Tryz.func262,Tryz.ntmps262;go_wp2_with fail;refine(r05_schedule s HS.out w).mono ?_;rintro e w1 ⟨rfl,hr1,hb1⟩;have HR1:=Hq hr1;have HB1:=Hq hb1;clear hr1 hb1;obtain⟨m,hm⟩:∃ m,s.data.toList=m:=⟨_,rfl⟩;rw[hm]at HR1 HY;clear hm;go_wp2_with fail;refine(r05_constants w1).mono ?_;rintro e w2 ⟨rfl,hr2,hb2⟩;have HK2:=Hq hr2;have HR2:=Hq (HR1.out.kept hb2 HR1.out.lt);have HB2:=Hq (below_up HB1.out HB1.out.size hb2);have HS2:=Hq hb2.size;have HV2:=Hq (HV.out.kept HB2.out HV.out.lt);obtain⟨H,hH⟩:∃ H,w.heap.size=H:=⟨_,rfl⟩;obtain⟨H1,hH1⟩:∃ H,w1.heap.size=H:=⟨_,rfl⟩;have hH01:H<H1:=by rw[←hH,←hH1];exact HR1.out.lt
 have hbH:b<H:=by rw[←hH];exact HV.out.lt
 rw[hH]at HR2 HB2⊢;rw[hH1]at HK2⊢;clear hb2 HB1 HR1 HS2;go_wp2_with (at_builtin;refine wpList_append_state w2 rfl (.tmp 21) (.tmp 22) rfl rfl b c S rfl HV2.out ?_);intro g c' w3 hv3 hg3 hb3;have hsz2:H1<w2.heap.size:=by rw[←hH1]at HK2⊢;exact HK2.out.lt
 have HV3:=Hq hv3;have HB3:=Hq (HB2.out.trans (hb3.mono (by omega)));have HR3:=Hq (HR2.out.kept hb3 (by omega));have HK3:=Hq (HK2.out.kept hb3 hsz2);have HG3:=Hq (show H≤g from by omega);obtain⟨L,hL⟩:∃ L,w3.heap.size=L:=⟨_,rfl⟩;have hH1L:H1<L:=by rw[←hL];have:=hb3.size;omega
 clear hv3 hg3 hb3 HR2 HK2 HB2 HV2 hsz2;go_wp2;go_loopw [7,8] (fun v i wr=>∃ k g c:Nat,k≤64∧v=.slice (some ⟨g,0,none⟩) 8 c∧i=.int .i64 k∧H≤g∧RowV8 wr g c (rds m S k).at∧Below L w3 wr) (fun _ i _=>64 - (RowKit.intOf i).toNat);case atStart=>exact⟨0,g,c',by omega,rfl,rfl,HG3.out,by rw[rds_zero];exact HV3.out,Below.refl _ _⟩
 case round =>
  obtain⟨k,g,c2,hk,rfl,rfl,hg,hx,hb⟩:=hrel;have HX2:=Hq hx;have HBR:=Hq hb;have HG:=Hq hg;clear hx hb hg;by_cases hlt:k<64
  · have hlti:(k:Int)<64:=by omega
    obtain⟨⟨a,b',c,d,e,f,g',hh⟩,hst⟩:∃ x,rds m S k=x:=⟨_,rfl⟩;have HST:=Hq hst;rw[hst]at HX2;clear hst;obtain⟨c0,c1,c2',c3,c4,c5,c6,c7⟩:=HX2.out.drew.c8;clear c3 c7;have HKW:=Hq (HK3.out.kept HBR.out hH1L);have HWW:=Hq (HR3.out.kept HBR.out (by omega));obtain⟨wd,hwd⟩:∃ wd,wr.drew=wd:=⟨_,rfl⟩;have HXD:=Hq (show RowV8 wd g c2 (W8.at ⟨a,b',c,d,e,f,g',hh⟩)from by rw[←hwd];exact HX2.out);have HKD:=Hq (show RowW wd H1 64 232 kv from by rw[←hwd];exact HKW.out.drew);have HWD:=Hq (show RowW wd H 64 232 (wv m)from by rw[←hwd];exact HWW.out.drew);have HBD:=Hq (show Below L w3 wd from by rw[←hwd];exact HBR.out.drew);rw[hwd]at c0 c1 c2' c4 c5 c6;go_wp2;refine wp_region_K 24 (Eq wd) (by kernel_rfl) ?_;intro hD;rw[hwd];have KK1:=Hq (fun w' (hS':(Eq wd) w')=>And.intro ((hS'▸c0)) (And.intro ((hS'▸c1)) (And.intro ((hS'▸c2')) (And.intro ((hS'▸c4)) (And.intro ((hS'▸c5)) ((hS'▸c6)))))));refine rP 0 28 23 rfl hD rfl ?_;clear hD;intro hD;simp only[Act.put,sqA,sqB,sqC];refine rP 1 29 22 rfl hD rfl ?_;clear hD;intro hD;simp only[Act.put,sqA,sqB,sqC];refine rT 2 30 21 rfl hD rfl (by intro w' hS';obtain⟨e0,e1,e2,e3,e4,e5⟩:=KK1.out w' hS';go_simp;with_reducible rfl) ?_;clear hD;intro hD;simp only[Act.put,sqA,sqB,sqC];refine rP 3 31 20 rfl hD rfl ?_;clear hD;intro hD;simp only[Act.put,sqA,sqB,sqC];refine rP 4 32 19 rfl hD rfl ?_;clear hD;intro hD;simp only[Act.put,sqA,sqB,sqC];refine rT 5 33 18 rfl hD rfl (by intro w' hS';obtain⟨e0,e1,e2,e3,e4,e5⟩:=KK1.out w' hS';go_simp;with_reducible rfl) ?_;clear hD;intro hD;simp only[Act.put,sqA,sqB,sqC];refine rP 6 34 17 rfl hD rfl ?_;clear hD;intro hD;simp only[Act.put,sqA,sqB,sqC];refine rP 7 35 16 rfl hD rfl ?_;clear hD;intro hD;simp only[Act.put,sqA,sqB,sqC];refine rT 8 36 15 rfl hD rfl (by intro w' hS';obtain⟨e0,e1,e2,e3,e4,e5⟩:=KK1.out w' hS';go_simp;with_reducible rfl) ?_;clear hD;intro hD;simp only[Act.put,sqA,sqB,sqC];refine rP 9 37 14 rfl hD rfl ?_;clear hD;intro hD;simp only[Act.put,sqA,sqB,sqC];refine rP 10 38 13 rfl hD rfl ?_;clear hD;intro hD;simp only[Act.put,sqA,sqB,sqC];refine rT 11 39 12 rfl hD rfl (by intro w' hS';obtain⟨e0,e1,e2,e3,e4,e5⟩:=KK1.out w' hS';go_simp;with_reducible rfl) ?_;clear hD;intro hD;simp only[Act.put,sqA,sqB,sqC];refine rP 12 40 11 rfl hD rfl ?_;clear hD;intro hD;simp only[Act.put,sqA,sqB,sqC];refine rP 13 41 10 rfl hD rfl ?_;clear hD;intro hD;simp only[Act.put,sqA,sqB,sqC];refine rT 14 42 9 rfl hD rfl (by intro w' hS';obtain⟨e0,e1,e2,e3,e4,e5⟩:=KK1.out w' hS';go_simp;with_reducible rfl) ?_;clear hD;intro hD;simp only[Act.put,sqA,sqB,sqC];refine rP 15 43 8 rfl hD rfl ?_;clear hD;intro hD;simp only[Act.put,sqA,sqB,sqC];refine rP 16 44 7 rfl hD rfl ?_;clear hD;intro hD;simp only[Act.put,sqA,sqB,sqC];refine rT 17 45 6 rfl hD rfl (by intro w' hS';obtain⟨e0,e1,e2,e3,e4,e5⟩:=KK1.out w' hS';go_simp;with_reducible rfl) ?_;clear hD;intro hD;simp only[Act.put,sqA,sqB,sqC];refine rO 18 5 rfl hD ?_;clear hD;intro K18 hK18;go_wp2;refine hK18 _ _ (by rfl) ?_;clear hK18;intro hS_6_18 hD;refine rO 19 4 rfl hD ?_;clear hD;intro K19 hK19;go_wp2;refine hK19 _ _ (by rfl) ?_;clear hK19;intro hS_6_19 hD;refine rO 20 3 rfl hD ?_;clear hD;intro K20 hK20;go_wp2;refine hK20 _ _ (by rfl) ?_;clear hK20;intro hS_6_20 hD;refine rO 21 2 rfl hD ?_;clear hD;intro K21 hK21;go_wp2;refine hK21 _ _ (by rfl) ?_;clear hK21;intro hS_6_21 hD;refine rO 22 1 rfl hD ?_;clear hD;intro K22 hK22;go_wp2;refine hK22 _ _ (by rfl) ?_;clear hK22;intro hS_6_22 hD;refine rO 23 0 rfl hD ?_;clear hD;intro K23 hK23;go_wp2;refine hK23 _ _ (by rfl) ?_;clear hK23;intro hS_6_23 hD;refine wpAnyK_done (by kernel_rfl) ?_ 0;clear hD;clear c0 c1 c2' c4 c5 c6 hwd HX2 HKW HWW HBR;obtain⟨we,hwe⟩:∃ we,wd.drew=we:=⟨_,rfl⟩;have HXE:=Hq (show RowV8 we g c2 (W8.at ⟨a,b',c,d,e,f,g',hh⟩)from by rw[←hwe];exact HXD.out);obtain⟨_,_,_,_,_,_,_,c7⟩:=HXE.out.c8;have ck:=(show RowW we H1 64 232 kv from by rw[←hwe];exact HKD.out).cell hlt;have cw:=(show RowW we H 64 232 (wv m)from by rw[←hwe];exact HWD.out).cell hlt;obtain⟨kk,hkk⟩:∃ x,kv k=x:=⟨_,rfl⟩;obtain⟨ww,hww⟩:∃ x,wv m k=x:=⟨_,rfl⟩;rw[hkk]at ck;rw[hww]at cw;have HKK:=Hq hkk;have HWW:=Hq hww;clear hkk hww;have HBE:=Hq (show Below L w3 we from by rw[←hwe];exact HBD.out.drew);go_wp2;refine wp_region_K 32 (Below (we).heap.size (we)) (by kernel_rfl) ?_;intro hD;rw[hwe];refine rP 0 46 31 rfl hD (Below.refl _ _) ?_;clear hD;intro hD;simp only[Act.put,sqA,sqB,sqC];refine rP 1 47 30 rfl hD (Below.refl _ _) ?_;clear hD;intro hD;simp only[Act.put,sqA,sqB,sqC];refine rT 2 48 29 rfl hD (Below.refl _ _) (by intro w' hS';have e0:=kC hS' c7;have e1:=kC hS' ck;have e2:=kC hS' cw;go_simp;with_reducible rfl) ?_;clear hD;intro hD;simp only[Act.put,sqA,sqB,sqC];refine rP 3 49 28 rfl hD (Below.refl _ _) ?_;clear hD;intro hD;simp only[Act.put,sqA,sqB,sqC];refine rP 5 51 27 rfl hD (Below.refl _ _) ?_;clear hD;intro hD;simp only[Act.put,sqA,sqB,sqC];refine rP 8 54 26 rfl hD (Below.refl _ _) ?_;clear hD;intro hD;simp only[Act.put,sqA,sqB,sqC];refine rP 12 58 25 rfl hD (Below.refl _ _) ?_;clear hD;intro hD;simp only[Act.put,sqA,sqB,sqC];refine rP 13 59 24 rfl hD (Below.refl _ _) ?_;clear hD;intro hD;simp only[Act.put,sqA,sqB,sqC];refine rP 14 60 23 rfl hD (Below.refl _ _) ?_;clear hD;intro hD;simp only[Act.put,sqA,sqB,sqC];refine rP 15 61 22 rfl hD (Below.refl _ _) ?_;clear hD;intro hD;simp only[Act.put,sqA,sqB,sqC];refine rP 16 62 21 rfl hD (Below.refl _ _) ?_;clear hD;intro hD;simp only[Act.put,sqA,sqB,sqC];refine rP 17 63 20 rfl hD (Below.refl _ _) ?_;clear hD;intro hD;simp only[Act.put,sqA,sqB,sqC];refine rP 18 64 19 rfl hD (Below.refl _ _) ?_;clear hD;intro hD;simp only[Act.put,sqA,sqB,sqC];refine rP 19 65 18 rfl hD (Below.refl _ _) ?_;clear hD;intro hD;simp only[Act.put,sqA,sqB,sqC];refine rP 21 67 17 rfl hD (Below.refl _ _) ?_;clear hD;intro hD;simp only[Act.put,sqA,sqB,sqC];refine rP 22 68 16 rfl hD (Below.refl _ _) ?_;clear hD;intro hD;simp only[Act.put,sqA,sqB,sqC];refine rP 23 69 15 rfl hD (Below.refl _ _) ?_;clear hD;intro hD;simp only[Act.put,sqA,sqB,sqC];refine rT 24 70 14 rfl hD (Below.refl _ _) (by intro w' hS';have e0:=kC hS' c7;have e1:=kC hS' ck;have e2:=kC hS' cw;go_simp;with_reducible rfl) ?_;clear hD;intro hD;simp only[Act.put,sqA,sqB,sqC];refine rP 26 72 13 rfl hD (Below.refl _ _) ?_;clear hD;intro hD;simp only[Act.put,sqA,sqB,sqC];refine rP 27 73 12 rfl hD (Below.refl _ _) ?_;clear hD;intro hD;simp only[Act.put,sqA,sqB,sqC];refine rP 28 74 11 rfl hD (Below.refl _ _) ?_;clear hD;intro hD;simp only[Act.put,sqA,sqB,sqC];refine rT 29 75 10 rfl hD (Below.refl _ _) (by intro w' hS';have e0:=kC hS' c7;have e1:=kC hS' ck;have e2:=kC hS' cw;go_simp;with_reducible rfl) ?_;clear hD;intro hD;simp only[Act.put,sqA,sqB,sqC];refine rO 4 9 rfl hD ?_;clear hD;intro K4 hK4;go_wp2_with fail;refine(r05_right e 6 (by decide) (by decide) _).mono ?_;rintro e' w1 ⟨rfl,hb⟩;have HB4:=Hq hb;clear hb;go_wp2;refine hK4 _ _ (by exact HB4.out) ?_;clear hK4;intro hS_7_4 hD;refine rO 6 8 rfl hD ?_;clear hD;intro K6 hK6;go_wp2_with fail;refine(r05_right e 11 (by decide) (by decide) _).mono ?_;rintro e' w1 ⟨rfl,hb⟩;have HB6:=Hq hb;clear hb;go_wp2;refine hK6 _ _ (by exact Below.trans hS_7_4 (Below.mono HB6.out (Below.size hS_7_4))) ?_;clear hK6;intro hS_7_6 hD;refine rP 7 53 7 rfl hD hS_7_6 ?_;clear hD;intro hD;simp only[Act.put,sqA,sqB,sqC];refine rO 9 6 rfl hD ?_;clear hD;intro K9 hK9;go_wp2_with fail;refine(r05_right e 25 (by decide) (by decide) _).mono ?_;rintro e' w1 ⟨rfl,hb⟩;have HB9:=Hq hb;clear hb;go_wp2;refine hK9 _ _ (by exact Below.trans hS_7_6 (Below.mono HB9.out (Below.size hS_7_6))) ?_;clear hK9;intro hS_7_9 hD;refine rP 10 56 5 rfl hD hS_7_9 ?_;clear hD;intro hD;simp only[Act.put,sqA,sqB,sqC];refine rP 11 57 4 rfl hD hS_7_9 ?_;clear hD;intro hD;simp only[Act.put,sqA,sqB,sqC];refine rP 20 66 3 rfl hD hS_7_9 ?_;clear hD;intro hD;simp only[Act.put,sqA,sqB,sqC];refine rP 25 71 2 rfl hD hS_7_9 ?_;clear hD;intro hD;simp only[Act.put,sqA,sqB,sqC];refine rP 30 76 1 rfl hD hS_7_9 ?_;clear hD;intro hD;simp only[Act.put,sqA,sqB,sqC];refine rO 31 0 rfl hD ?_;clear hD;intro K31 hK31;go_wp2;refine hK31 _ _ (by exact hS_7_9) ?_;clear hK31;intro hS_7_31 hD;have HL:=Hq hS_7_31;refine wpAnyK_done (by kernel_rfl) ?_ 0;clear hD;clear c7 ck cw;rw[tv_val2];obtain⟨T,hT⟩:∃ T,hh+(rr e 6 ^^^ rr e 11 ^^^ rr e 25)+(e &&& f ^^^ ~~~ e &&& g')+kk+ww=T:=⟨_,rfl⟩;have HT:=Hq hT;rw[hT];clear hT;have HXL:=Hq (HXE.out.kept HL.out HXE.out.lt);have HBL:=Hq (below_up HBE.out (by rw[←hL];exact HBE.out.size) HL.out);have HSL:=Hq (show L≤we.heap.size from by rw[←hL];have:=HBE.out.size;omega);have HSM:=Hq HL.out.size;go_wp2_with fail;refine(r05_right a 2 (by decide) (by decide) _).mono ?_;rintro e' w5 ⟨rfl,hb5⟩;go_wp2_with fail;refine(r05_right a 13 (by decide) (by decide) _).mono ?_;rintro e' w6 ⟨rfl,hb6⟩;go_wp2_with fail;refine(r05_right a 22 (by decide) (by decide) _).mono ?_;rintro e' w7 ⟨rfl,hb7⟩;have hb567:=(hb5.trans (hb6.mono hb5.size)).trans (hb7.mono (by have:=hb5.size;have:=hb6.size;omega));have HX7:=Hq (HXL.out.kept hb567 HXL.out.lt);have HB7:=Hq (below_up HBL.out (by have:=HSL.out;have:=HSM.out;omega) hb567);have HS7:=Hq (show L≤w7.heap.size from by have:=HSL.out;have:=HSM.out;have:=hb567.size;omega);clear hb5 hb6 hb7 hb567;obtain⟨_,_,_,c3,_,_,_,_⟩:=HX7.out.c8;go_wp2;rw[tu_val,mod_val];clear c3;refine⟨⟨k+1,w7.heap.size,8,by omega,rfl,by go_num,by have:=HS7.out;omega,?_,HB7.out.alloc HS7.out _⟩,by simp[RowKit.intOf];omega⟩;rw[rds_succ,HST.out,HKK.out,HWW.out];have:=RowV8.new w7 (rd kk ww ⟨a,b',c,d,e,f,g',hh⟩);rw[←HT.out];exact this
  · have HK64:=Hq (show k=64 from by omega);have hge:¬ ((k:Int)<64):=by omega
    obtain⟨X,hX⟩:∃ X,rds m S 64=X:=⟨_,rfl⟩;have HX3:=Hq (show RowV8 wr g c2 (addP X S 0)from by
     have h:=HX2.out;rw[HK64.out,hX]at h
     exact h.congr fun j _=>by unfold addP;rw[if_neg (Nat.not_lt_zero _)])
    have HXY:=Hq (show X.add S=Y from by rw[←hX,←HY.out];rfl);have HV4:=Hq (HV.out.kept HB3.out (by omega));have HV3':=Hq (HV4.out.kept HBR.out (by omega));have HBX:=Hq (show Below H w wr from HB3.out.trans (HBR.out.mono (by omega)));clear hk hlt HX2 HK64 hX HBR HV4 HV3 HR3 HK3;go_wp2;go_loopw [17] (fun i wr=>∃ q:Nat,q≤8∧i=.int .i64 q∧RowV8 wr g c2 (addP X S q)∧Below H w wr) (fun i _=>8 - (RowKit.intOf i).toNat);case atStart=>exact⟨0,by omega,rfl,HX3.out,HBX.out⟩
    case round =>
     obtain⟨q,hq,rfl,hx,hb⟩:=hrel;have HXQ:=Hq hx;have HBQ:=Hq hb;clear hx hb;by_cases hq8:q<8
     · have hqi:(q:Int)<8:=by omega
       have c0:=HXQ.out.drew.cell hq8;have c1:=(HV.out.kept HBQ.out (by rw[←hH]at hbH;omega)).drew.cell hq8;have hf:=HXQ.out.drew.free q;obtain⟨x,hx⟩:∃ x,addP X S q q=x:=⟨_,rfl⟩;obtain⟨y,hy⟩:∃ x,S.at q=x:=⟨_,rfl⟩;have HE:=Hq (show addP X S (q+1) q=x+y from by rw[←hx,←hy];unfold addP;rw[if_pos (by omega),if_neg (by omega)]);rw[hx]at c0;rw[hy]at c1;clear hx hy;obtain⟨wd,hwd⟩:∃ wd,wr.drew=wd:=⟨_,rfl⟩;rw[hwd]at c0 c1 hf;go_wp2;refine wp_region_K 10 (Eq wd) (by kernel_rfl) ?_;intro hD;rw[hwd];refine qPD 0 116 10 rfl hD rfl ?_;clear hD;intro hD;simp only[Act.put,sqA,sqB,sqC];refine qPD 1 117 9 rfl hD rfl ?_;clear hD;intro hD;simp only[Act.put,sqA,sqB,sqC];refine qPD 2 118 8 rfl hD rfl ?_;clear hD;intro hD;simp only[Act.put,sqA,sqB,sqC];refine qTD 3 119 7 rfl hD rfl (by intro w' hS';have e0:=(hS'▸c0);have e1:=(hS'▸c1);go_simp;with_reducible rfl) ?_;clear hD;intro hD;simp only[Act.put,sqA,sqB,sqC];refine qPD 4 120 6 rfl hD rfl ?_;clear hD;intro hD;simp only[Act.put,sqA,sqB,sqC];refine qPD 5 121 5 rfl hD rfl ?_;clear hD;intro hD;simp only[Act.put,sqA,sqB,sqC];refine qPD 6 122 4 rfl hD rfl ?_;clear hD;intro hD;simp only[Act.put,sqA,sqB,sqC];refine qTD 7 123 3 rfl hD rfl (by intro w' hS';have e0:=(hS'▸c0);have e1:=(hS'▸c1);go_simp;with_reducible rfl) ?_;clear hD;intro hD;simp only[Act.put,sqA,sqB,sqC];refine qPD 8 124 2 rfl hD rfl ?_;clear hD;intro hD;simp only[Act.put,sqA,sqB,sqC];refine qPD 9 125 1 rfl hD rfl ?_;clear hD;intro hD;simp only[Act.put,sqA,sqB,sqC];refine wpAnyK_oneT (i:=10) (fuel:=0) (by kernel_rfl) rfl hD (by kernel_rfl) ?_;clear hD;intro K10 hK10;go_wp2;refine hK10 _ _ ?_;clear hK10;intro hD;refine wpAnyK_done (by kernel_rfl) ?_ 0;clear hD;clear c0 c1 hf;rw[mod_val];go_wp2;go_roundw;case rel =>
        refine⟨q+1,by omega,by go_num,?_,?_⟩
        · rw[←hwd];refine(HXQ.out.drew.set q (x+y)).congr fun i hi=>?_;by_cases e:i=q
          · rw[if_pos e,e,HE.out]
          · rw[if_neg e];unfold addP;by_cases h:i<q
            · rw[if_pos h,if_pos (by omega)]
            · rw[if_neg h,if_neg (by omega)]
        · rw[←hwd];exact HBQ.out.drew.setCell (by have:=HG.out;exact this) _
       case measure=>simp[RowKit.intOf];omega
     · have HQ:=Hq (show q=8 from by omega);have hqe:¬ ((q:Int)<8):=by omega
       have HXE:=Hq (show RowV8 wr g c2 Y.at from by
        have h:=HXQ.out;rw[HQ.out]at h;rw[←HXY.out]
        exact h.congr fun j hj=>addP_all X S j hj)
       clear hq hq8 HXQ HQ;go_wp2;go_ret;exact⟨g,c2,rfl,HXE.out,HG.out,HBQ.out⟩
end Go.Proofs.YthcekkeknonefaaGreat
