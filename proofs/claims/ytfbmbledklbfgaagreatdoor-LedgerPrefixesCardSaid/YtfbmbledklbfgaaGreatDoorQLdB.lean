import Derived.Test.YtfbmbledklbfgaaGreatDoorQTrC
set_option linter.unusedVariables false
set_option linter.unusedSimpArgs false
namespace Go.Proofs.YtfbmbledklbfgaaGreatDoor
set_option maxRecDepth 100000
set_option maxHeartbeats 4000000
open Go.RowKit Go.Lib
def SlS(w:World)(A:Option Addr)(n c:Nat)(l:List ByteArray):Prop:=
 SlN w A n c l∧(A=none→c=0)∧∀ b o,A=some ⟨b,o,none⟩→∃ cs fr,w.heap[b]? =some (.cells cs 9 fr)
theorem SlS.kept{w w':World}{A:Option Addr}{n c:Nat}{l:List ByteArray}(h:SlS w A n c l)(hb:Below w.heap.size w w'):SlS w' A n c l:=
 ⟨h.1.kept hb nlr,h.2.1,fun b o e=>by obtain⟨cs,fr,hc⟩:=h.2.2 b o e;exact⟨cs,fr,(hb.block b (block_lt hc)).trans hc⟩⟩
theorem cell_keepS{w w':World}{b k:Nat}{cs:Array Value}{fr:Nat×Nat}(hk:KeepS w w')(hc:w.heap[b]? =some (.cells cs 9 fr)):w'.cell? ⟨b,k,none⟩=w.cell? ⟨b,k,none⟩:=by
 unfold World.cell?;rw[hk b cs fr hc,hc]
theorem SlS.keptS{w w':World}{A:Option Addr}{n c:Nat}{l:List ByteArray}(h:SlS w A n c l)(hk:KeepS w w'):SlS w' A n c l:=by
 obtain⟨⟨h1,h2,h3,b,o,h4,h5⟩,h6,h7⟩:=h;refine⟨⟨h1,h2,h3,b,o,h4,fun k s hs=>?_⟩,h6,fun b o e=>by obtain⟨cs,fr,hc⟩:=h7 b o e;exact⟨cs,fr,hk _ _ _ hc⟩⟩;have hlt:k<l.length:=(List.getElem?_eq_some_iff.1 hs).1;obtain⟨cs,fr,hc⟩:=h7 b o (h4 (by omega));rw[cell_keepS hk hc];exact h5 k s hs
theorem SlS.of_owns{w:World}{base:Nat}{v:Value}{n:Nat}{l:List ByteArray}(h:w.ownsRow base 9 1 v n (l.map Value.string)):∃ A cap,v=.slice A n cap∧SlS w A n cap l:=by
 obtain⟨hl,A,cap,rfl,hs⟩:=SlN.of_owns h;refine⟨A,cap,rfl,hs,fun e=>?_,fun b o e=>?_⟩
 · subst e;rcases h.2 with⟨hv,_⟩ | ⟨g,c,cur,hv,_⟩
   · cases hv;rfl
   · cases hv
 · subst e;rcases h.2 with⟨hv,_⟩ | ⟨g,c,cur,hv,_,hg,_⟩
   · cases hv
   · cases hv;exact⟨_,_,hg⟩
def dt(l:List ByteArray):List (List UInt8):=l.map fun s=>s.data.toList
theorem dt_snoc(l:List ByteArray)(s:ByteArray):dt (l++[s])=dt l++[s.data.toList]:=by simp[dt]
theorem dt_length(l:List ByteArray):(dt l).length=l.length:=by simp[dt]
theorem take_snocT{α:Type}{l:List α}{k:Nat}{y:α}(h:l[k]? =some y):l.take (k+1)=l.take k++[y]:=by
 obtain⟨h1,rfl⟩:=List.getElem?_eq_some_iff.1 h;exact List.take_succ_eq_append_getElem h1
theorem str_info:(Tryz.prog.info? 9).map (fun i=>(i.zero,i.size,i.bytes))=some (some (.string ⟨#[]⟩),1,16):=by kernel_rfl
theorem ptL_le{l:List ByteArray}{m:Nat}(h:∀ s∈l,s.size≤m)(k:Nat):(ptL (dt (l.take k))).length≤l.length * (8+m):=by
 rw[ptL_length,dt_length];have h1:((dt (l.take k)).map List.length).sum≤(dt (l.take k)).length * m:=sum_le_all fun s hs=>by
  obtain⟨x,hx,rfl⟩:=List.mem_map.1 hs;have:=h x (List.mem_of_mem_take hx);simpa[data_len]using this
 rw[dt_length]at h1;have h2:(l.take k).length≤l.length:=by rw[List.length_take];omega
 calc 8 * (l.take k).length+((dt (l.take k)).map List.length).sum≤8 * (l.take k).length+(l.take k).length * m:=Nat.add_le_add_left h1 _
  _=(l.take k).length * (8+m):=by rw[Nat.mul_add,Nat.mul_comm]
  _≤l.length * (8+m):=Nat.mul_le_mul_right _ h2
theorem tr_idS(s:ByteArray)(w:World):Calls Tryz.prog 126 #[.string s] w fun e w'=>e=.returned (.string s)∧w=w':=by
 go_enter Tryz.func126,Tryz.ntmps126;go_wp2;go_ret;exact⟨rfl,rfl⟩
theorem tr_idN(s:ByteArray)(w:World):Calls Tryz.prog 101 #[.string s] w fun e w'=>e=.returned (.string s)∧w=w':=by
 go_enter Tryz.func101,Tryz.ntmps101;go_wp2;go_ret;exact⟨rfl,rfl⟩
theorem full_run{ρ:Operand→Value}{o:Oper}(x y z:Operand)(hop:o.op=Op.slice 41 x none (some y) (some z)){A:Option Addr}{N c:Nat}(hx:ρ x=.slice A N c)(hy:ρ y=.int .i64 (N:Int))(hz:ρ z=.int .i64 (N:Int))(h:N≤c)(w:World):Sem.run Tryz.prog (execOp ρ o) w=Result.ok (.value (.slice A N N)) w:=by
 obtain⟨i0,hi,hz0,hz1,hz2⟩:=info_parts str_info;have ht:Tryz.prog.underlying 41=some (.slice (Tryz.prog.elem 41)):=by rw[show Tryz.prog.elem 41=9 from by kernel_rfl];exact Tryz.underlying41
 have he:(if (N:Int).toNat=0 then A else A.map fun x=>x.add (0 * i0.size))=A:=by
  split
  · rfl
  · cases A with
    | none=>rfl
    | some a=>simp[Addr.add]
 have hs:=run_slice_hm (P:=Tryz.prog) w 41 A N c ht .i64 .i64 (N:Int) (N:Int) (by omega) (by omega) (by omega);unfold execOp;simp only[hop,hx,hy,hz,Option.map_some,Option.map_none];rw[show Tryz.prog.elem 41=9 from by kernel_rfl]at hs ht;simp[run_sliceAt_slice,go_sem,run_underlying ht,hs,sizeOf,typeInfo,hi,sliced,he,Result.andThen]
theorem tr_framedS(k:UInt8)(A0:Option Addr)(n0 c0:Nat)(l0:List ByteArray)(A1:Option Addr)(n1 c1:Nat)(l1:List ByteArray)(hn:n0+n1≤1000)(hz:∀ s∈l0++l1,s.size≤1000000)(w:World)(h0:SlS w A0 n0 c0 l0)(h1:SlN w A1 n1 c1 l1) :
 Calls Tryz.prog 125 #[.int .u8 (k.toNat:Int),.slice A0 n0 c0,.slice A1 n1 c1,.func (.func 126) #[] #[]] w (Ret (.string (bstr (trH k (dt (l0++l1))))) w):=by
 obtain⟨i0,hi,hz0,hz1,hz2⟩:=info_parts str_info;have hib:=Lib.fresh_isBuilder 169 5 w;have hb0:Below w.heap.size w (w.alloc (.cells #[.pointer none,.slice none 0 0] 169)):=(blr).alloc nlr _;obtain⟨W0,hW0⟩:∃ W,w.alloc (.cells #[.pointer none,.slice none 0 0] 169)=W:=⟨_,rfl⟩;have hzw:w.heap.size≤W0.heap.size:=by rw[←hW0];simp
 rw[hW0]at hib hb0;have HIB:=Hq hib;have HB0:=Hq hb0;have HS0:=Hq (h0.kept hb0);have HM1:=Hq h1;have HZ0:=Hq hzw;have HSZ:=Hq hz;have HN:=Hq hn;have HL0:=Hq h0.1.1;have HL1:=Hq h1.1;clear hib hb0 h0 hzw hz h1;go_enter Tryz.func125,Tryz.ntmps125;go_wp2_with fail;try rw[hW0]
 clear hW0;refine(frb_WriteByte _ _ [] (k.toNat:Int) _ HIB.out (by simp) HZ0.out).mono ?_;rintro e w1 ⟨rfl,hi1,hb1,hk1⟩;have HI1:=Hq (show IsBuilder 169 5 w.heap.size w.heap.size (Lib.byteCells [k]) w1 from hi1);have HB1:=Hq (HB0.out.trans hb1);have HS1:=Hq (HS0.out.keptS hk1);have HZ1:=Hq (Nat.le_trans HZ0.out hb1.size);clear hi1 hb1 hk1;have h8:=fr_eight w.heap.size w.heap.size (Lib.byteCells [k]) (n0+n1) (by omega) w1 HI1.out (by simp[Lib.byteCells]) HZ1.out;rw[Int.natCast_add]at h8;have H8:=Hq h8;have hni:(n0:Int)+(n1:Int)≤1000:=by omega
 clear h8 hn;go_wp2_with fail;refine H8.out.mono ?_;rintro e w2 ⟨rfl,hi2,hb2,hk2⟩;have HI2:=Hq hi2;have HB2:=Hq (HB1.out.trans hb2);have HS2:=Hq (HS1.out.keptS hk2);have HZ2:=Hq (Nat.le_trans HZ1.out hb2.size);clear hi2 hb2 hk2;obtain⟨H,hH⟩:∃ H,Lib.byteCells [k]++Lib.byteCells (shE8 (n0+n1))=H:=⟨_,rfl⟩;have HH:=Hq hH;rw[hH]at HI2;clear hH;go_wp2;go_loopw [1,25] (fun v i wr=>∃(j c:Nat) (A:Option Addr),j≤n1∧i=.int .i64 j∧v=.slice A (n0+j) c∧SlS wr A (n0+j) c (l0++l1.take j)∧IsBuilder 169 5 w.heap.size w.heap.size H wr∧Below w.heap.size w wr∧w.heap.size≤wr.heap.size) (fun _ i _=>n1 - (RowKit.intOf i).toNat);case atStart=>exact⟨0,c0,A0,Nat.zero_le _,rfl,rfl,by simpa using HS2.out,HI2.out,HB2.out,HZ2.out⟩
 case round =>
  obtain⟨j,c,A,hj,rfl,rfl,hs,hib,hb,hzr⟩:=hrel;have HS:=Hq hs;have HIB:=Hq hib;have HB:=Hq hb;have HZR:=Hq hzr;clear hs hib hb hzr;by_cases hlt:j<n1
  · obtain⟨b1,o1,rfl⟩:=HM1.out.head (by omega);obtain⟨x,hx⟩:∃ x,l1[j]? =some x:=⟨_,List.getElem?_eq_getElem (by have:=HL1.out;omega)⟩;have hcx:=(HM1.out.kept HB.out nlr).get? j hx;have HX:=Hq hx;obtain⟨N,hN⟩:∃ N,n0+j=N:=⟨_,rfl⟩;have HNN:=Hq hN;rw[hN]at HS⊢;have hNc:N≤c:=HS.out.1.2.1;have HLT:=Hq hlt;clear hN hx hj;go_wp2;obtain⟨wd,hwd⟩:∃ wd,wr.drew=wd:=⟨_,rfl⟩;have hbd:Below wr.heap.size wr wd:=by rw[←hwd];exact(blr).drew
    have HSD:=Hq (HS.out.kept hbd);have HID:=Hq (show IsBuilder 169 5 w.heap.size w.heap.size H wd from by rw[←hwd];exact frb_drew HIB.out);have HBD:=Hq (HB.out.trans (hbd.mono HZR.out));have HZD:=Hq (Nat.le_trans HZR.out hbd.size);clear hbd hcx;refine wp_region_K 12 (fun _=>True) (by kernel_rfl) ?_;intro hD;rw[hwd];refine rP 0 29 11 rfl hD trivial ?_;clear hD;intro hD;refine rP 1 30 10 rfl hD trivial ?_;clear hD;intro hD;refine rP 2 31 9 rfl hD trivial ?_;clear hD;intro hD;refine rP 3 32 8 rfl hD trivial ?_;clear hD;intro hD;refine rP 4 33 7 rfl hD trivial ?_;clear hD;intro hD;refine wpAnyK_takeSD (i:=5) (d:=some 34) (v:=(.slice A N N)) (fuel:=6) rfl (by kernel_rfl) (by kernel_rfl) (by kernel_rfl) (fun _ _ _ h=>h) hD trivial (.inl ⟨by kernel_rfl,?y7_5b1⟩) ?n7_5b1;case y7_5b1 =>
     intro w' _;exact full_run (.tmp 29) (.tmp 31) (.tmp 33) rfl rfl rfl rfl hNc w'
    clear hD;intro hD;refine rP 6 35 5 rfl hD trivial ?_;clear hD;intro hD;refine rP 7 36 4 rfl hD trivial ?_;clear hD;intro hD;simp only[Act.put,sqA,sqB,sqC];refine rO 8 3 rfl hD ?_;clear hD;intro K8 hK8;go_wp2_with fail;refine(tr_idS x _).mono ?_;rintro e w3 ⟨rfl,rfl⟩;go_wp2;refine hK8 _ _ (by trivial) ?_;clear hK8;intro hS_7_8 hD;refine rO 9 2 rfl hD ?_;clear hD;intro K9 hK9;go_wp2;refine hK9 _ _ (by trivial) ?_;clear hK9;intro hS_7_9 hD;refine rO 10 1 rfl hD ?_;clear hD;intro K10 hK10;refine wpList_append_grows _ rfl (.tmp 34) (.tmp 38) 41 rfl 9 i0 (.string ⟨#[]⟩) 1 16 Tryz.underlying41 hi hz0 hz1 hz2 rfl (by decide) A N N ((l0++l1.take j).map Value.string) rfl ?hnone ?hlo ?holds ⟨wd.heap.size,0,none⟩ 1 1 [.string x] rfl rfl ?c1 ?c2 (by omega) ?b1 ?b2 ?_;case hnone =>
     intro e;have h1:=HSD.out.2.1 e;have h2:=HSD.out.1.2.1;omega
    case hlo=>rw[List.length_map,HSD.out.1.1,Nat.mul_one]
    case holds =>
     intro b e i u hu;subst e;exact cell_kept ((blr).alloc nlr _) nlr (HSD.out.1.cells i u hu)
    case c1 =>
     intro i u hu
     match i,hu with
     | 0,hu=>simp at hu;subst hu;simp[Addr.add]
     | (i+1),hu=>simp at hu
    case c2=>intro u hu;simp at hu;subst hu;rfl
    case b1=>have:=HN.out;have:=HNN.out;have:=HLT.out;unfold maxLen;omega
    case b2=>have:=HN.out;have:=HNN.out;have:=HLT.out;omega
    intro v' w4 hown hgrow;obtain⟨A4,c4,rfl,hs4⟩:=SlS.of_owns (l:=l0++l1.take j++[x]) (by rw[List.map_append,List.map_singleton];exact hown);have hb4:Below wd.heap.size wd w4:=((blr).alloc nlr _).grown hgrow (by simp) (fun k e=>by cases e);have HS4:=Hq hs4;have HB4:=Hq hb4;clear hown hgrow hs4 hb4;go_wp2;refine hK10 _ _ (by trivial) ?_;clear hK10;intro hS_7_10 hD;refine rO 11 0 rfl hD ?_;clear hD;intro K11 hK11;go_wp2;refine hK11 _ _ (by trivial) ?_;clear hK11;intro hS_7_11 hD;refine wpD ?_;clear hD;go_wp2;go_roundw;case rel =>
     refine⟨j+1,c4,A4,HLT.out,by go_num,by rw[←HNN.out];rfl,?_,frb_kept HID.out HB4.out,HBD.out.trans (HB4.out.mono HZD.out),Nat.le_trans HZD.out HB4.out.size⟩;rw[take_snocT HX.out,←List.append_assoc,←Nat.add_assoc,HNN.out];exact HS4.out
    case measure=>have:=HLT.out;simp[RowKit.intOf];omega
  · obtain⟨N,hN⟩:∃ N,n0+n1=N:=⟨_,rfl⟩;have hjn:j=n1:=by omega
    have HS9:=Hq (show SlS wr A N c (l0++l1)from by
     have h:=HS.out;rw[hjn,hN,List.take_of_length_le (by rw[HL1.out];exact Nat.le_refl _)]at h
     exact h)
    rw[show n0+j=N from by omega];obtain⟨L,hL⟩:∃ L,l0++l1=L:=⟨_,rfl⟩;have HLL:=Hq (show L.length=N from by rw[←hL,List.length_append,HL0.out,HL1.out];exact hN);have HN9:=Hq (show N≤1000 from by have:=HN.out;omega);rw[hL]at HS9 HSZ;have HLE:=Hq hL;have HH9:=Hq (show H=Lib.byteCells (k::shE8 L.length)from by rw[←HH.out,HLL.out,←hN,←byteCells_append];rfl);clear hjn hN hj HS hL;go_wp2;clear hlt;go_loopw [43] (fun i wr=>∃ q:Nat,q≤N∧i=.int .i64 q∧SlS wr A N c L∧IsBuilder 169 5 w.heap.size w.heap.size (Lib.byteCells (k::shE8 L.length++ptL (dt (L.take q)))) wr∧Below w.heap.size w wr∧w.heap.size≤wr.heap.size) (fun i _=>N - (RowKit.intOf i).toNat);case atStart=>exact⟨0,Nat.zero_le _,rfl,HS9.out,by have:=HIB.out;rw[HH9.out]at this;simpa[dt,ptL]using this,HB.out,HZR.out⟩
    case round =>
     obtain⟨q,hq,rfl,hs,hib,hb,hzr⟩:=hrel;have HSQ:=Hq hs;have HIQ:=Hq hib;have HBQ:=Hq hb;have HZQ:=Hq hzr;clear hs hib hb hzr;by_cases hlt:q<N
     · obtain⟨b1,o1,rfl⟩:=HSQ.out.1.head (by omega);obtain⟨x,hx⟩:∃ x,L[q]? =some x:=⟨_,List.getElem?_eq_getElem (by have:=HLL.out;omega)⟩;have hcx:=HSQ.out.1.get? q hx;have hxs:x.size≤1000000:=HSZ.out x (List.mem_of_getElem? hx);have HPL:=Hq (ptL_le HSZ.out q);have HPN:=Hq (show L.length * (8+1000000)≤1000 * (8+1000000)from Nat.mul_le_mul_right _ (by rw[HLL.out];exact HN9.out));have HXQ:=Hq hx;have HLQ:=Hq hlt;have hq9:(q:Int)<1000:=by have:=HN9.out;omega
       obtain⟨pre,hpre⟩:∃ p,k::shE8 L.length++ptL (dt (L.take q))=p:=⟨_,rfl⟩;have HPP:=Hq hpre;rw[hpre]at HIQ;have HPR:=Hq (show pre.length≤2000000000 from by
        rw[←hpre];have h1:=HPL.out;have h2:=HPN.out;simp[shE8]
        omega)
       have h8:=fr_eight w.heap.size w.heap.size (Lib.byteCells pre) x.size (by omega) wr HIQ.out (by rw[byteCells_length];have:=HPR.out;omega) HZQ.out;have H8Q:=Hq h8;have HXS:=Hq hxs;clear hx hq h8 hpre hxs;go_wp2_with fail;refine H8Q.out.mono ?_;rintro e w3 ⟨rfl,hi3,hb3,hk3⟩;have HI3:=Hq hi3;have HB3:=Hq (HBQ.out.trans hb3);have HS3:=Hq (HSQ.out.keptS hk3);have HZ3:=Hq (Nat.le_trans HZQ.out hb3.size);clear hi3 hb3 hk3 hcx;go_wp2_with fail;refine(frb_WriteString _ _ _ x _ HI3.out (by rw[List.length_append,byteCells_length,byteCells_length];have:=HPR.out;have:=HXS.out;simp[shE8];omega) HZ3.out).mono ?_;rintro e w4 ⟨rfl,hi4,hb4,hk4⟩;rw[Lib.strCells_eq,←byteCells_append,←byteCells_append]at hi4;have HI4:=Hq hi4;have HB4:=Hq (HB3.out.trans hb4);have HS4:=Hq (HS3.out.keptS hk4);have HZ4:=Hq (Nat.le_trans HZ3.out hb4.size);clear hi4 hb4 hk4;go_wp2;go_roundw;case rel =>
        refine⟨q+1,HLQ.out,by go_num,HS4.out,?_,HB4.out,HZ4.out⟩;rw[take_snocT HXQ.out,dt_snoc,ptL_snoc,data_len,←List.append_assoc,←List.append_assoc,HPP.out];exact HI4.out
       case measure=>have:=HLQ.out;simp[RowKit.intOf];omega
     · have hqn:q=N:=by omega
       have HIZ:=Hq (show IsBuilder 169 5 w.heap.size w.heap.size (Lib.byteCells (frL k (dt L))) wr from by
        have h:=HIQ.out;rw[hqn,List.take_of_length_le (by rw[HLL.out];exact Nat.le_refl _)]at h;unfold frL;rw[dt_length]
        exact h)
       have HPL:=Hq (ptL_le HSZ.out N);have HPN:=Hq (show L.length * (8+1000000)≤1000 * (8+1000000)from Nat.mul_le_mul_right _ (by rw[HLL.out];exact HN9.out));have hfl:(frL k (dt L)).length≤1000000000000:=(by have h1:=HPL.out;have h2:=HPN.out;rw[List.take_of_length_le (by rw[HLL.out];exact Nat.le_refl _)]at h1;unfold frL;simp[shE8];omega);have HFL:=Hq hfl;obtain⟨F,hF⟩:∃ F,frL k (dt L)=F:=⟨_,rfl⟩;have HR:=Hq (show trH k (dt L)=shaL F from by rw[←hF];rfl);rw[hF]at HIZ HFL;clear hqn hfl hF HIQ hq HSQ;go_wp2_with fail;refine(frb_String _ _ F _ HIZ.out HZQ.out).mono ?_;rintro e w3 ⟨rfl,hk3⟩;have HB3:=Hq (HBQ.out.trans hk3.1);have HZ3:=Hq (Nat.le_trans HZQ.out hk3.1.size);clear hk3;have hsz:(bstr F).size≤1000000000000:=by rw[bstr_size];exact HFL.out
       have HSUM:=Hq (h_Sum (bstr F) hsz);rw[bstr_data]at HSUM;clear hsz;go_wp2_with fail;refine(HSUM.out _).mono ?_;rintro e w4 ⟨rfl,hb4⟩;have HB4:=Hq (HB3.out.trans (hb4.mono HZ3.out));clear hb4;go_wp2;go_ret;exact⟨by rw[HLE.out,HR.out];rfl,HB4.out⟩
theorem tr_framedN(k:UInt8)(A0:Option Addr)(n0 c0:Nat)(l0:List ByteArray)(A1:Option Addr)(n1 c1:Nat)(l1:List ByteArray)(hn:n0+n1≤1000)(hz:∀ s∈l0++l1,s.size≤1000000)(w:World)(h0:SlS w A0 n0 c0 l0)(h1:SlN w A1 n1 c1 l1) :
 Calls Tryz.prog 100 #[.int .u8 (k.toNat:Int),.slice A0 n0 c0,.slice A1 n1 c1,.func (.func 101) #[] #[]] w (Ret (.string (bstr (trH k (dt (l0++l1))))) w):=by
 obtain⟨i0,hi,hz0,hz1,hz2⟩:=info_parts str_info;have hib:=Lib.fresh_isBuilder 169 5 w;have hb0:Below w.heap.size w (w.alloc (.cells #[.pointer none,.slice none 0 0] 169)):=(blr).alloc nlr _;obtain⟨W0,hW0⟩:∃ W,w.alloc (.cells #[.pointer none,.slice none 0 0] 169)=W:=⟨_,rfl⟩;have hzw:w.heap.size≤W0.heap.size:=by rw[←hW0];simp
 rw[hW0]at hib hb0;have HIB:=Hq hib;have HB0:=Hq hb0;have HS0:=Hq (h0.kept hb0);have HM1:=Hq h1;have HZ0:=Hq hzw;have HSZ:=Hq hz;have HN:=Hq hn;have HL0:=Hq h0.1.1;have HL1:=Hq h1.1;clear hib hb0 h0 hzw hz h1;go_enter Tryz.func100,Tryz.ntmps100;go_wp2_with fail;try rw[hW0]
 clear hW0;refine(frb_WriteByte _ _ [] (k.toNat:Int) _ HIB.out (by simp) HZ0.out).mono ?_;rintro e w1 ⟨rfl,hi1,hb1,hk1⟩;have HI1:=Hq (show IsBuilder 169 5 w.heap.size w.heap.size (Lib.byteCells [k]) w1 from hi1);have HB1:=Hq (HB0.out.trans hb1);have HS1:=Hq (HS0.out.keptS hk1);have HZ1:=Hq (Nat.le_trans HZ0.out hb1.size);clear hi1 hb1 hk1;have h8:=fr_eight w.heap.size w.heap.size (Lib.byteCells [k]) (n0+n1) (by omega) w1 HI1.out (by simp[Lib.byteCells]) HZ1.out;rw[Int.natCast_add]at h8;have H8:=Hq h8;have hni:(n0:Int)+(n1:Int)≤1000:=by omega
 clear h8 hn;go_wp2_with fail;refine H8.out.mono ?_;rintro e w2 ⟨rfl,hi2,hb2,hk2⟩;have HI2:=Hq hi2;have HB2:=Hq (HB1.out.trans hb2);have HS2:=Hq (HS1.out.keptS hk2);have HZ2:=Hq (Nat.le_trans HZ1.out hb2.size);clear hi2 hb2 hk2;obtain⟨H,hH⟩:∃ H,Lib.byteCells [k]++Lib.byteCells (shE8 (n0+n1))=H:=⟨_,rfl⟩;have HH:=Hq hH;rw[hH]at HI2;clear hH;go_wp2;go_loopw [1,25] (fun v i wr=>∃(j c:Nat) (A:Option Addr),j≤n1∧i=.int .i64 j∧v=.slice A (n0+j) c∧SlS wr A (n0+j) c (l0++l1.take j)∧IsBuilder 169 5 w.heap.size w.heap.size H wr∧Below w.heap.size w wr∧w.heap.size≤wr.heap.size) (fun _ i _=>n1 - (RowKit.intOf i).toNat);case atStart=>exact⟨0,c0,A0,Nat.zero_le _,rfl,rfl,by simpa using HS2.out,HI2.out,HB2.out,HZ2.out⟩
 case round =>
  obtain⟨j,c,A,hj,rfl,rfl,hs,hib,hb,hzr⟩:=hrel;have HS:=Hq hs;have HIB:=Hq hib;have HB:=Hq hb;have HZR:=Hq hzr;clear hs hib hb hzr;by_cases hlt:j<n1
  · obtain⟨b1,o1,rfl⟩:=HM1.out.head (by omega);obtain⟨x,hx⟩:∃ x,l1[j]? =some x:=⟨_,List.getElem?_eq_getElem (by have:=HL1.out;omega)⟩;have hcx:=(HM1.out.kept HB.out nlr).get? j hx;have HX:=Hq hx;obtain⟨N,hN⟩:∃ N,n0+j=N:=⟨_,rfl⟩;have HNN:=Hq hN;rw[hN]at HS⊢;have hNc:N≤c:=HS.out.1.2.1;have HLT:=Hq hlt;clear hN hx hj;go_wp2;obtain⟨wd,hwd⟩:∃ wd,wr.drew=wd:=⟨_,rfl⟩;have hbd:Below wr.heap.size wr wd:=by rw[←hwd];exact(blr).drew
    have HSD:=Hq (HS.out.kept hbd);have HID:=Hq (show IsBuilder 169 5 w.heap.size w.heap.size H wd from by rw[←hwd];exact frb_drew HIB.out);have HBD:=Hq (HB.out.trans (hbd.mono HZR.out));have HZD:=Hq (Nat.le_trans HZR.out hbd.size);clear hbd hcx;refine wp_region_K 12 (fun _=>True) (by kernel_rfl) ?_;intro hD;rw[hwd];refine rP 0 29 11 rfl hD trivial ?_;clear hD;intro hD;refine rP 1 30 10 rfl hD trivial ?_;clear hD;intro hD;refine rP 2 31 9 rfl hD trivial ?_;clear hD;intro hD;refine rP 3 32 8 rfl hD trivial ?_;clear hD;intro hD;refine rP 4 33 7 rfl hD trivial ?_;clear hD;intro hD;refine wpAnyK_takeSD (i:=5) (d:=some 34) (v:=(.slice A N N)) (fuel:=6) rfl (by kernel_rfl) (by kernel_rfl) (by kernel_rfl) (fun _ _ _ h=>h) hD trivial (.inl ⟨by kernel_rfl,?y7_5b2⟩) ?n7_5b2;case y7_5b2 =>
     intro w' _;exact full_run (.tmp 29) (.tmp 31) (.tmp 33) rfl rfl rfl rfl hNc w'
    clear hD;intro hD;refine rP 6 35 5 rfl hD trivial ?_;clear hD;intro hD;refine rP 7 36 4 rfl hD trivial ?_;clear hD;intro hD;simp only[Act.put,sqA,sqB,sqC];refine rO 8 3 rfl hD ?_;clear hD;intro K8 hK8;go_wp2_with fail;refine(tr_idN x _).mono ?_;rintro e w3 ⟨rfl,rfl⟩;go_wp2;refine hK8 _ _ (by trivial) ?_;clear hK8;intro hS_7_8 hD;refine rO 9 2 rfl hD ?_;clear hD;intro K9 hK9;go_wp2;refine hK9 _ _ (by trivial) ?_;clear hK9;intro hS_7_9 hD;refine rO 10 1 rfl hD ?_;clear hD;intro K10 hK10;refine wpList_append_grows _ rfl (.tmp 34) (.tmp 38) 41 rfl 9 i0 (.string ⟨#[]⟩) 1 16 Tryz.underlying41 hi hz0 hz1 hz2 rfl (by decide) A N N ((l0++l1.take j).map Value.string) rfl ?hnone ?hlo ?holds ⟨wd.heap.size,0,none⟩ 1 1 [.string x] rfl rfl ?c1 ?c2 (by omega) ?b1 ?b2 ?_;case hnone =>
     intro e;have h1:=HSD.out.2.1 e;have h2:=HSD.out.1.2.1;omega
    case hlo=>rw[List.length_map,HSD.out.1.1,Nat.mul_one]
    case holds =>
     intro b e i u hu;subst e;exact cell_kept ((blr).alloc nlr _) nlr (HSD.out.1.cells i u hu)
    case c1 =>
     intro i u hu
     match i,hu with
     | 0,hu=>simp at hu;subst hu;simp[Addr.add]
     | (i+1),hu=>simp at hu
    case c2=>intro u hu;simp at hu;subst hu;rfl
    case b1=>have:=HN.out;have:=HNN.out;have:=HLT.out;unfold maxLen;omega
    case b2=>have:=HN.out;have:=HNN.out;have:=HLT.out;omega
    intro v' w4 hown hgrow;obtain⟨A4,c4,rfl,hs4⟩:=SlS.of_owns (l:=l0++l1.take j++[x]) (by rw[List.map_append,List.map_singleton];exact hown);have hb4:Below wd.heap.size wd w4:=((blr).alloc nlr _).grown hgrow (by simp) (fun k e=>by cases e);have HS4:=Hq hs4;have HB4:=Hq hb4;clear hown hgrow hs4 hb4;go_wp2;refine hK10 _ _ (by trivial) ?_;clear hK10;intro hS_7_10 hD;refine rO 11 0 rfl hD ?_;clear hD;intro K11 hK11;go_wp2;refine hK11 _ _ (by trivial) ?_;clear hK11;intro hS_7_11 hD;refine wpD ?_;clear hD;go_wp2;go_roundw;case rel =>
     refine⟨j+1,c4,A4,HLT.out,by go_num,by rw[←HNN.out];rfl,?_,frb_kept HID.out HB4.out,HBD.out.trans (HB4.out.mono HZD.out),Nat.le_trans HZD.out HB4.out.size⟩;rw[take_snocT HX.out,←List.append_assoc,←Nat.add_assoc,HNN.out];exact HS4.out
    case measure=>have:=HLT.out;simp[RowKit.intOf];omega
  · obtain⟨N,hN⟩:∃ N,n0+n1=N:=⟨_,rfl⟩;have hjn:j=n1:=by omega
    have HS9:=Hq (show SlS wr A N c (l0++l1)from by
     have h:=HS.out;rw[hjn,hN,List.take_of_length_le (by rw[HL1.out];exact Nat.le_refl _)]at h
     exact h)
    rw[show n0+j=N from by omega];obtain⟨L,hL⟩:∃ L,l0++l1=L:=⟨_,rfl⟩;have HLL:=Hq (show L.length=N from by rw[←hL,List.length_append,HL0.out,HL1.out];exact hN);have HN9:=Hq (show N≤1000 from by have:=HN.out;omega);rw[hL]at HS9 HSZ;have HLE:=Hq hL;have HH9:=Hq (show H=Lib.byteCells (k::shE8 L.length)from by rw[←HH.out,HLL.out,←hN,←byteCells_append];rfl);clear hjn hN hj HS hL;go_wp2;clear hlt;go_loopw [43] (fun i wr=>∃ q:Nat,q≤N∧i=.int .i64 q∧SlS wr A N c L∧IsBuilder 169 5 w.heap.size w.heap.size (Lib.byteCells (k::shE8 L.length++ptL (dt (L.take q)))) wr∧Below w.heap.size w wr∧w.heap.size≤wr.heap.size) (fun i _=>N - (RowKit.intOf i).toNat);case atStart=>exact⟨0,Nat.zero_le _,rfl,HS9.out,by have:=HIB.out;rw[HH9.out]at this;simpa[dt,ptL]using this,HB.out,HZR.out⟩
    case round =>
     obtain⟨q,hq,rfl,hs,hib,hb,hzr⟩:=hrel;have HSQ:=Hq hs;have HIQ:=Hq hib;have HBQ:=Hq hb;have HZQ:=Hq hzr;clear hs hib hb hzr;by_cases hlt:q<N
     · obtain⟨b1,o1,rfl⟩:=HSQ.out.1.head (by omega);obtain⟨x,hx⟩:∃ x,L[q]? =some x:=⟨_,List.getElem?_eq_getElem (by have:=HLL.out;omega)⟩;have hcx:=HSQ.out.1.get? q hx;have hxs:x.size≤1000000:=HSZ.out x (List.mem_of_getElem? hx);have HPL:=Hq (ptL_le HSZ.out q);have HPN:=Hq (show L.length * (8+1000000)≤1000 * (8+1000000)from Nat.mul_le_mul_right _ (by rw[HLL.out];exact HN9.out));have HXQ:=Hq hx;have HLQ:=Hq hlt;have hq9:(q:Int)<1000:=by have:=HN9.out;omega
       obtain⟨pre,hpre⟩:∃ p,k::shE8 L.length++ptL (dt (L.take q))=p:=⟨_,rfl⟩;have HPP:=Hq hpre;rw[hpre]at HIQ;have HPR:=Hq (show pre.length≤2000000000 from by
        rw[←hpre];have h1:=HPL.out;have h2:=HPN.out;simp[shE8]
        omega)
       have h8:=fr_eight w.heap.size w.heap.size (Lib.byteCells pre) x.size (by omega) wr HIQ.out (by rw[byteCells_length];have:=HPR.out;omega) HZQ.out;have H8Q:=Hq h8;have HXS:=Hq hxs;clear hx hq h8 hpre hxs;go_wp2_with fail;refine H8Q.out.mono ?_;rintro e w3 ⟨rfl,hi3,hb3,hk3⟩;have HI3:=Hq hi3;have HB3:=Hq (HBQ.out.trans hb3);have HS3:=Hq (HSQ.out.keptS hk3);have HZ3:=Hq (Nat.le_trans HZQ.out hb3.size);clear hi3 hb3 hk3 hcx;go_wp2_with fail;refine(frb_WriteString _ _ _ x _ HI3.out (by rw[List.length_append,byteCells_length,byteCells_length];have:=HPR.out;have:=HXS.out;simp[shE8];omega) HZ3.out).mono ?_;rintro e w4 ⟨rfl,hi4,hb4,hk4⟩;rw[Lib.strCells_eq,←byteCells_append,←byteCells_append]at hi4;have HI4:=Hq hi4;have HB4:=Hq (HB3.out.trans hb4);have HS4:=Hq (HS3.out.keptS hk4);have HZ4:=Hq (Nat.le_trans HZ3.out hb4.size);clear hi4 hb4 hk4;go_wp2;go_roundw;case rel =>
        refine⟨q+1,HLQ.out,by go_num,HS4.out,?_,HB4.out,HZ4.out⟩;rw[take_snocT HXQ.out,dt_snoc,ptL_snoc,data_len,←List.append_assoc,←List.append_assoc,HPP.out];exact HI4.out
       case measure=>have:=HLQ.out;simp[RowKit.intOf];omega
     · have hqn:q=N:=by omega
       have HIZ:=Hq (show IsBuilder 169 5 w.heap.size w.heap.size (Lib.byteCells (frL k (dt L))) wr from by
        have h:=HIQ.out;rw[hqn,List.take_of_length_le (by rw[HLL.out];exact Nat.le_refl _)]at h;unfold frL;rw[dt_length]
        exact h)
       have HPL:=Hq (ptL_le HSZ.out N);have HPN:=Hq (show L.length * (8+1000000)≤1000 * (8+1000000)from Nat.mul_le_mul_right _ (by rw[HLL.out];exact HN9.out));have hfl:(frL k (dt L)).length≤1000000000000:=(by have h1:=HPL.out;have h2:=HPN.out;rw[List.take_of_length_le (by rw[HLL.out];exact Nat.le_refl _)]at h1;unfold frL;simp[shE8];omega);have HFL:=Hq hfl;obtain⟨F,hF⟩:∃ F,frL k (dt L)=F:=⟨_,rfl⟩;have HR:=Hq (show trH k (dt L)=shaL F from by rw[←hF];rfl);rw[hF]at HIZ HFL;clear hqn hfl hF HIQ hq HSQ;go_wp2_with fail;refine(frb_String _ _ F _ HIZ.out HZQ.out).mono ?_;rintro e w3 ⟨rfl,hk3⟩;have HB3:=Hq (HBQ.out.trans hk3.1);have HZ3:=Hq (Nat.le_trans HZQ.out hk3.1.size);clear hk3;have hsz:(bstr F).size≤1000000000000:=by rw[bstr_size];exact HFL.out
       have HSUM:=Hq (h_Sum (bstr F) hsz);rw[bstr_data]at HSUM;clear hsz;go_wp2_with fail;refine(HSUM.out _).mono ?_;rintro e w4 ⟨rfl,hb4⟩;have HB4:=Hq (HB3.out.trans (hb4.mono HZ3.out));clear hb4;go_wp2;go_ret;exact⟨by rw[HLE.out,HR.out];rfl,HB4.out⟩
set_option maxRecDepth 100000
set_option maxHeartbeats 1000000
theorem sls_alloc(w:World)(l:List ByteArray)(h:l.length≤9223372036854775807:=by decide):SlS (w.alloc (.cells (l.map Value.string).toArray 9)) (some ⟨w.heap.size,0,none⟩) l.length l.length l:=
 ⟨sln_alloc w l _ h,(fun e=>by cases e),fun b o e=>by cases e;exact⟨_,_,heap_alloc_new _ _⟩⟩
theorem SlS.none(w:World):SlS w none 0 0 []:=⟨SlN.nil w 0 (by omega) _,fun _=>rfl,fun b o e=>by cases e⟩
theorem tr_plain(k:UInt8)(A1:Option Addr)(n1 c1:Nat)(l1:List ByteArray)(hn:n1≤1000)(hz:∀ s∈l1,s.size≤1000000)(w:World)(h1:SlN w A1 n1 c1 l1) :
 Calls Tryz.prog 99 #[.int .u8 (k.toNat:Int),.slice A1 n1 c1] w (Ret (.string (bstr (trH k (dt l1)))) w):=by
 have HF:=Hq (tr_framedS k none 0 0 [] A1 n1 c1 l1 (by omega) (by simpa using hz) w (SlS.none w) h1);rw[List.nil_append]at HF;obtain⟨r,hr⟩:∃ r,bstr (trH k (dt l1))=r:=⟨_,rfl⟩;rw[hr]at HF⊢;clear hr h1;go_enter Tryz.func99,Tryz.ntmps99;go_wp2_with fail;refine HF.out.mono ?_;rintro e w1 ⟨rfl,hb⟩;go_wp2;go_ret;exact⟨rfl,hb⟩
theorem tr_New(a:ByteArray)(ha:a.size≤1000000)(w:World):Calls Tryz.prog 70 #[.string a] w (Ret (.string (bstr (trH 78 (dt [a])))) w):=by
 have HF:=Hq (tr_plain 78 _ 1 1 [a] (by omega) (by simpa using ha) _ (sln_alloc w [a] 9 (by simp)));obtain⟨r,hr⟩:∃ r,bstr (trH 78 (dt [a]))=r:=⟨_,rfl⟩;rw[hr]at HF⊢;clear hr;have HB:=Hq ((Below.refl w.heap.size w).alloc nlr (.cells #[.string a] 9));go_enter Tryz.func70,Tryz.ntmps70;go_wp2_with fail;refine HF.out.mono ?_;rintro e w1 ⟨rfl,hb⟩;have HB1:=Hq (HB.out.trans (hb.mono HB.out.size));clear hb;go_wp2;go_ret;exact⟨rfl,HB1.out⟩
theorem tr_Add(a b c:ByteArray)(ha:a.size≤1000000)(hb:b.size≤1000000)(hc:c.size≤1000000)(w:World):Calls Tryz.prog 73 #[.string a,.string b,.string c] w (Ret (.string (bstr (trH 65 (dt [a,b,c])))) w):=by
 have HF:=Hq (tr_plain 65 _ 3 3 [a,b,c] (by omega) (by simp;exact⟨ha,hb,hc⟩) _ (sln_alloc w [a,b,c] 9 (by simp)));obtain⟨r,hr⟩:∃ r,bstr (trH 65 (dt [a,b,c]))=r:=⟨_,rfl⟩;rw[hr]at HF⊢;clear hr;have HB:=Hq ((Below.refl w.heap.size w).alloc nlr (.cells #[.string a,.string b,.string c] 9));clear ha hb hc;go_enter Tryz.func73,Tryz.ntmps73;go_wp2_with fail;refine HF.out.mono ?_;rintro e w1 ⟨rfl,hb⟩;have HB1:=Hq (HB.out.trans (hb.mono HB.out.size));clear hb;go_wp2;go_ret;exact⟨rfl,HB1.out⟩
theorem tr_Nats(a b:ByteArray)(A1:Option Addr)(n1 c1:Nat)(l1:List ByteArray)(ha:a.size≤1000000)(hb:b.size≤1000000)(hn:n1≤900)(hz:∀ s∈l1,s.size≤1000000)(w:World)(h1:SlN w A1 n1 c1 l1):Calls Tryz.prog 71 #[.string a,.string b,.slice A1 n1 c1] w (Ret (.string (bstr (trH 76 (dt ([a,b]++l1))))) w):=by
 have hbb:=(Below.refl w.heap.size w).alloc nlr (.cells #[.string a,.string b] 9);have HF:=Hq (tr_framedN 76 _ 2 2 [a,b] A1 n1 c1 l1 (by omega) (by
  intro s hs;rcases List.mem_append.1 hs with h | h
  · simp at h;rcases h with rfl | rfl<;>assumption
  · exact hz s h) _ (sls_alloc w [a,b] (by simp)) (h1.kept hbb nlr))
 obtain⟨r,hr⟩:∃ r,bstr (trH 76 (dt ([a,b]++l1)))=r:=⟨_,rfl⟩;rw[hr]at HF⊢;have HB:=Hq hbb;clear hr hbb ha hb h1 hn hz;go_enter Tryz.func71,Tryz.ntmps71;go_wp2_with fail;refine HF.out.mono ?_;rintro e w1 ⟨rfl,hb⟩;have HB1:=Hq (HB.out.trans (hb.mono HB.out.size));clear hb;go_wp2;go_ret;exact⟨rfl,HB1.out⟩
def vN(f:Nat→Nat):Nat→Nat
 | 0=>0
 | n+1=>vN f n+f n * 256 ^ n
theorem vN_lt{f:Nat→Nat}:∀ {n:Nat},(∀ i,i<n→f i<256)→vN f n<256 ^ n
 | 0,_=>Nat.one_pos
 | n+1,h=>by
  have h1:=vN_lt (n:=n) (fun i hi=>h i (by omega));have h2:f n+1≤256:=h n (by omega);have h3:=Nat.mul_le_mul_right (256 ^ n) h2;unfold vN;rw[Nat.pow_succ];rw[Nat.add_mul]at h3;omega
theorem vN_congr{f g:Nat→Nat}:∀ {n:Nat},(∀ i,i<n→f i=g i)→vN f n=vN g n
 | 0,_=>rfl
 | n+1,h=>by unfold vN;rw[vN_congr (n:=n) (fun i hi=>h i (by omega)),h n (by omega)]
theorem vN_dig(v:Nat):∀ n,vN (dig v) n=v%256 ^ n
 | 0=>by rw[Nat.pow_zero,Nat.mod_one];rfl
 | n+1=>by
  unfold vN;rw[vN_dig v n,Nat.pow_succ,Nat.mod_mul,dig,Nat.mul_comm (256 ^ n)]
theorem vN_split(f:Nat→Nat)(j:Nat):∀ k,vN f (j+k)=vN f j+256 ^ j * vN (fun i=>f (j+i)) k
 | 0=>rfl
 | k+1=>by
  show vN f (j+k)+f (j+k) * 256 ^ (j+k)=_+256 ^ j * (vN (fun i=>f (j+i)) k+f (j+k) * 256 ^ k);rw[vN_split f j k,Nat.pow_add,Nat.mul_add,Nat.add_assoc];congr 1;congr 1;rw[Nat.mul_left_comm]
theorem vN_div{f:Nat→Nat}{j k:Nat}(h:∀ i,i<j→f i<256):vN f (j+k) / 256 ^ j=vN (fun i=>f (j+i)) k:=by
 rw[vN_split,Nat.add_mul_div_left _ _ (Nat.pow_pos (by decide)),Nat.div_eq_of_lt (vN_lt h),Nat.zero_add]
theorem dig_vN{f:Nat→Nat}{n:Nat}(h:∀ i,i<n→f i<256){i:Nat}(hi:i<n):dig (vN f n) i=f i:=by
 obtain⟨k,rfl⟩:∃ k,n=i+(1+k):=⟨n - i - 1,by omega⟩;unfold dig;rw[vN_div (fun j hj=>h j (by omega)),vN_split];show (0+f (i+0) * 256 ^ 0+256 ^ 1 * _)%256=_;rw[Nat.pow_one,Nat.add_mul_mod_self_left,Nat.zero_add,Nat.pow_zero,Nat.mul_one,Nat.add_zero];exact Nat.mod_eq_of_lt (h i (by omega))
theorem dig_scaled{v s i:Nat}(hs:s≤7):dig (v * 2 ^ s) (i+1)=dig v (i+1) * 2 ^ s%256+dig v i / 2 ^ (8 - s):=by
 unfold dig;have e:v * 2 ^ s / 256 ^ (i+1)=v / 256 ^ i / 2 ^ (8 - s):=by
  rw[Nat.pow_succ,show (256:Nat)=2 ^ (8 - s) * 2 ^ s from by rw[←Nat.pow_add,show 8 - s+s=8 from by omega],←Nat.mul_assoc,Nat.mul_div_mul_right _ _ (Nat.pow_pos (by decide)),Nat.div_div_eq_div_mul]
 have e2:v / 256 ^ (i+1)=v / 256 ^ i / 256:=by rw[Nat.pow_succ,Nat.div_div_eq_div_mul]
 rw[e,e2];generalize v / 256 ^ i=z
 match s,hs with
 | 0,_=>simp only[Nat.pow_zero,Nat.mul_one];omega
 | 1,_=>simp only[Nat.reducePow,Nat.reduceSub];omega
 | 2,_=>simp only[Nat.reducePow,Nat.reduceSub];omega
 | 3,_=>simp only[Nat.reducePow,Nat.reduceSub];omega
 | 4,_=>simp only[Nat.reducePow,Nat.reduceSub];omega
 | 5,_=>simp only[Nat.reducePow,Nat.reduceSub];omega
 | 6,_=>simp only[Nat.reducePow,Nat.reduceSub];omega
 | 7,_=>simp only[Nat.reducePow,Nat.reduceSub];omega
theorem dig_scaled0{v s:Nat}:dig (v * 2 ^ s) 0=dig v 0 * 2 ^ s%256:=by
 unfold dig;rw[Nat.pow_zero,Nat.div_one,Nat.div_one,Nat.mod_mul_mod]
theorem dig_back{v s i:Nat}(hs:s≤7):dig (v / 2 ^ s) i=(dig v i+dig v (i+1) * 256) / 2 ^ s%256:=by
 unfold dig;have e2:v / 256 ^ (i+1)=v / 256 ^ i / 256:=by rw[Nat.pow_succ,Nat.div_div_eq_div_mul]
 rw[e2,Nat.div_div_eq_div_mul,Nat.mul_comm,←Nat.div_div_eq_div_mul];generalize v / 256 ^ i=z
 match s,hs with
 | 0,_=>simp only[Nat.pow_zero,Nat.div_one];omega
 | 1,_=>simp only[Nat.reducePow];omega
 | 2,_=>simp only[Nat.reducePow];omega
 | 3,_=>simp only[Nat.reducePow];omega
 | 4,_=>simp only[Nat.reducePow];omega
 | 5,_=>simp only[Nat.reducePow];omega
 | 6,_=>simp only[Nat.reducePow];omega
 | 7,_=>simp only[Nat.reducePow];omega
theorem guess_ge{u d:Nat→Nat}{n:Nat}(hn:0<n)(hu:∀ i,i<n+1→u i<256)(hd:0<d (n - 1))(h:vN u (n+1)<256 * vN d n):vN u (n+1) / vN d n≤min ((u n * 256+u (n - 1)) / d (n - 1)) 255:=by
 obtain⟨m,rfl⟩:∃ m,n=m+1:=⟨n - 1,by omega⟩;rw[Nat.add_sub_cancel]at *;have hD:0<vN d (m+1):=by omega
 have h1:vN u (m+1+1) / vN d (m+1)<256:=by rw[Nat.div_lt_iff_lt_mul hD];omega
 refine Nat.le_min.2 ⟨?_,by omega⟩;rw[Nat.le_div_iff_mul_le hd];have h2:=Nat.div_mul_le_self (vN u (m+1+1)) (vN d (m+1));generalize vN u (m+1+1) / vN d (m+1)=q at *;have h3:vN u m<256 ^ m:=vN_lt (fun i hi=>hu i (by omega));have e1:vN u (m+1+1)=vN u m+(u (m+1) * 256+u m) * 256 ^ m:=by
  show vN u m+u m * 256 ^ m+u (m+1) * 256 ^ (m+1)=_
  rw[Nat.pow_succ];grind
 have e2:vN d (m+1)=vN d m+d m * 256 ^ m:=rfl;rw[e1,e2]at h2;have hP:0<256 ^ m:=Nat.pow_pos (by decide);generalize 256 ^ m=P at *;generalize u (m+1) * 256+u m=U at *;have h4:q * d m * P<(U+1) * P:=by
  have : q * (vN d m+d m * P)=q * vN d m+q * d m * P:=by rw[Nat.mul_add,Nat.mul_assoc]
  rw[Nat.add_mul];omega
 have:=Nat.lt_of_mul_lt_mul_right h4;omega
theorem ms_step{x g d r c b b2 P V1 V2 V3:Nat}(h:x+(c+g * d)%256+b=r+256 * b2)(ih:V1+g * V2=V3+(c+b) * P):(V1+x * P)+g * (V2+d * P)=(V3+r * P)+((c+g * d) / 256+b2) * (256 * P):=by
 have h2:x+g * d+c+b=r+((c+g * d) / 256+b2) * 256:=by omega
 generalize (c+g * d) / 256=c2 at *
 grind
theorem ab_step{x d r c P V1 V2 V3:Nat}(h:x=c+(r+d))(ih:V1+c * P=V3+V2):(V1+x%256 * P)+x / 256 * (256 * P)=(V3+r * P)+(V2+d * P):=by
 have h2:x%256+x / 256 * 256=c+(r+d):=by omega
 generalize x / 256=c2 at *;generalize x%256=c1 at *
 grind
theorem ld_round{f f':Nat→Nat}{A D n j L:Nat}(hf:∀ i,i<L→f i<256)(hL:j+n<L)(hD:0<D)(hDn:D<256 ^ n)(hV:vN f L=A%(D * 256 ^ (j+1)))(hlo:∀ k,k<j→f' k=f k)(hhi:∀ k,j+n<k→f' k=f k)
 (hw:vN (fun i=>f' (j+i)) (n+1)=vN (fun i=>f (j+i)) (n+1)%D):vN f' L=A%(D * 256 ^ j):=by
 obtain⟨k,rfl⟩:∃ k,L=j+((n+1)+k):=⟨L - j - n - 1,by omega⟩;have hPj:0<256 ^ j:=Nat.pow_pos (by decide);have hlt:vN f (j+((n+1)+k))<256 ^ (j+(n+1)):=(by rw[hV];have h1:A%(D * 256 ^ (j+1))<D * 256 ^ (j+1):=Nat.mod_lt _ (Nat.mul_pos hD (Nat.pow_pos (by decide)));have h2:D * 256 ^ (j+1)≤256 ^ n * 256 ^ (j+1):=Nat.mul_le_mul_right _ (Nat.le_of_lt hDn);rw[←Nat.pow_add]at h2;rw[show j+(n+1)=n+(j+1)from by omega];omega);have hup:vN (fun i=>f (j+((n+1)+i))) k=0:=(by have h1:=vN_div (f:=f) (j:=j+(n+1)) (k:=k) (fun i hi=>hf i (by omega));rw[Nat.add_assoc,Nat.div_eq_of_lt hlt]at h1;rw[h1];exact vN_congr (fun i _=>congrArg f (by omega)));have hup':vN (fun i=>f' (j+((n+1)+i))) k=0:=by rw[←hup];exact vN_congr (fun i _=>hhi _ (by omega))
 have e1:vN f' (j+((n+1)+k))=vN f j+256 ^ j * (vN (fun i=>f (j+i)) (n+1)%D):=(by rw[vN_split,vN_split,hup',Nat.mul_zero,Nat.add_zero,hw,vN_congr hlo]);have e2:vN f (j+((n+1)+k))=vN f j+256 ^ j * vN (fun i=>f (j+i)) (n+1):=(by rw[vN_split,vN_split (fun i=>f (j+i)),hup,Nat.mul_zero,Nat.add_zero]);have hl:vN f j<256 ^ j:=vN_lt (fun i hi=>hf i (by omega));rw[e1];have e3:A%(D * 256 ^ j)=(A%(D * 256 ^ (j+1)))%(D * 256 ^ j):=(by rw[Nat.pow_succ,←Nat.mul_assoc,Nat.mod_mul_right_mod]);rw[e3,←hV,e2];generalize vN (fun i=>f (j+i)) (n+1)=U;rw[Nat.mul_comm D,Nat.mod_mul,Nat.add_mul_mod_self_left,Nat.mod_eq_of_lt hl,Nat.add_mul_div_left _ _ hPj,Nat.div_eq_of_lt hl,Nat.zero_add]
theorem ld_digit{f:Nat→Nat}{A D n j L:Nat}(hf:∀ i,i<L→f i<256)(hL:j+n<L)(hD:0<D)(hDn:D<256 ^ n)(hV:vN f L=A%(D * 256 ^ (j+1))):vN (fun i=>f (j+i)) (n+1)=vN f L / 256 ^ j∧vN (fun i=>f (j+i)) (n+1)<256 * D∧vN (fun i=>f (j+i)) (n+1) / D=dig (A / D) j:=by
 obtain⟨k,rfl⟩:∃ k,L=j+((n+1)+k):=⟨L - j - n - 1,by omega⟩;have hPj:0<256 ^ j:=Nat.pow_pos (by decide);have h1:vN f (j+((n+1)+k))<D * 256 ^ (j+1):=by rw[hV];exact Nat.mod_lt _ (Nat.mul_pos hD (Nat.pow_pos (by decide)))
 have hlt:vN f (j+((n+1)+k))<256 ^ (j+(n+1)):=(by have h2:D * 256 ^ (j+1)≤256 ^ n * 256 ^ (j+1):=Nat.mul_le_mul_right _ (Nat.le_of_lt hDn);rw[←Nat.pow_add]at h2;rw[show j+(n+1)=n+(j+1)from by omega];omega);have hup:vN (fun i=>f (j+((n+1)+i))) k=0:=(by have h1:=vN_div (f:=f) (j:=j+(n+1)) (k:=k) (fun i hi=>hf i (by omega));rw[Nat.add_assoc,Nat.div_eq_of_lt hlt]at h1;rw[h1];exact vN_congr (fun i _=>congrArg f (by omega)));have e0:vN f (j+((n+1)+k)) / 256 ^ j=vN (fun i=>f (j+i)) (n+1):=(by rw[vN_div (fun i hi=>hf i (by omega)),vN_split (fun i=>f (j+i)),hup,Nat.mul_zero,Nat.add_zero]);have e1:vN (fun i=>f (j+i)) (n+1)<256 * D:=by
  rw[←e0,Nat.div_lt_iff_lt_mul hPj];rw[Nat.pow_succ]at h1
  grind
 refine⟨e0.symm,e1,?_⟩;rw[←e0,hV,Nat.div_div_eq_div_mul,Nat.pow_succ,←Nat.mul_assoc,Nat.mul_comm (256 ^ j) D,Nat.mod_mul_right_div_self];unfold dig;rw[Nat.div_div_eq_div_mul]
theorem ld_start{A B s n L:Nat}(hnL:n≤L)(hA:A<256 ^ L)(hB:256 ^ (n - 1)≤B)(hn:0<n):A * 2 ^ s=A * 2 ^ s%(B * 2 ^ s * 256 ^ (L - n+1)):=by
 refine(Nat.mod_eq_of_lt ?_).symm;have h1:256 ^ L≤B * 256 ^ (L - n+1):=by
  have:=Nat.mul_le_mul_right (256 ^ (L - n+1)) hB;rw[←Nat.pow_add,show n - 1+(L - n+1)=L from by omega]at this;exact this
 have hP:0<2 ^ s:=Nat.pow_pos (by decide);rw[Nat.mul_right_comm];exact Nat.mul_lt_mul_of_pos_right (by omega) hP
open Go.RowKit
theorem zi_get{n j:Nat}(h:j<n):(zi n)[j]? =some (.int .i64 0):=by
 unfold zi;rw[←Array.getElem?_toList,toList_madeCells_one,List.getElem?_replicate,if_pos h]
def RowI(w:World)(B n:Nat)(f:Nat→Nat):Prop:=∃ cur:Array Value,w.heap[B]? =some (.cells cur 3 (0,0))∧cur.size=n∧∀ j,j<n→cur[j]? =some (.int .i64 (f j))
theorem RowI.start{w:World}(n:Nat):RowI (w.alloc (.cells (zi n) 3)) w.heap.size n (fun _=>0):=⟨_,heap_alloc_new _ _,zi_size n,fun j h=>zi_get h⟩
theorem RowI.cell{w:World}{B n:Nat}{f:Nat→Nat}(h:RowI w B n f){k:Nat}(hk:k<n):w.cell? ⟨B,k,none⟩=some (.int .i64 (f k)):=by
 obtain⟨cur,h1,h2,h3⟩:=h;rw[Lib.cell_of_heap h1];exact h3 k hk
theorem RowI.free{w:World}{B n:Nat}{f:Nat→Nat}(h:RowI w B n f)(k:Nat):w.frozen? ⟨B,k,none⟩=false:=by
 obtain⟨cur,h1,h2,h3⟩:=h;exact Lib.frozen_of_heap h1 k
theorem RowI.lt{w:World}{B n:Nat}{f:Nat→Nat}(h:RowI w B n f):B<w.heap.size:=by
 obtain⟨cur,h1,_⟩:=h;exact block_lt h1
def upd(f:Nat→Nat)(k v:Nat):Nat→Nat:=fun j=>if j=k then v else f j
theorem upd_at(f:Nat→Nat)(k v:Nat):upd f k v k=v:=if_pos rfl
theorem upd_off(f:Nat→Nat){k v j:Nat}(h:¬ (j=k)):upd f k v j=f j:=if_neg h
theorem RowI.set{w:World}{B n k:Nat}{f:Nat→Nat}(h:RowI w B n f)(v:Nat):RowI (w.setCell ⟨B,k,none⟩ (.int .i64 v)) B n (upd f k v):=by
 obtain⟨cur,h1,h2,h3⟩:=h;refine⟨_,block_setCell h1 _,by rw[Array.size_setIfInBounds,h2],fun j hj=>?_⟩;rw[Array.getElem?_setIfInBounds];by_cases e:k=j
 · subst e;rw[if_pos rfl,if_pos (by omega),upd_at]
 · rw[if_neg e,upd_off f (by omega)];exact h3 j hj
theorem RowI.congr{w:World}{B n:Nat}{f g:Nat→Nat}(h:RowI w B n f)(e:∀ j,j<n→f j=g j):RowI w B n g:=by
 obtain⟨cur,h1,h2,h3⟩:=h;exact⟨cur,h1,h2,fun j hj=>by rw[←e j hj];exact h3 j hj⟩
theorem RowI.heap{w w':World}{B n:Nat}{f:Nat→Nat}(h:RowI w B n f)(e:w'.heap[B]? =w.heap[B]?):RowI w' B n f:=by
 obtain⟨cur,h1,h2⟩:=h;exact⟨cur,e.trans h1,h2⟩
def OutH(w:World)(B n j v:Nat):Prop:=∃ cur:Array Value,w.heap[B]? =some (.cells cur 5 (0,0))∧cur.size=n∧∀ k,j≤k→k<n→cur[n - 1 - k]? =some (.int .u8 (dig v k))
theorem OutH.start{w:World}(n v:Nat):OutH (w.alloc (.cells (zb n) 5)) w.heap.size n n v:=⟨_,heap_alloc_new _ _,zb_size n,fun j h h2=>by omega⟩
theorem OutH.cell{w:World}{B n j v:Nat}(h:OutH w B n j v){k:Nat}(hk:k<n):∃ u,w.cell? ⟨B,k,none⟩=some u:=by
 obtain⟨cur,h1,h2,h3⟩:=h;exact⟨_,by rw[Lib.cell_of_heap h1];exact Array.getElem?_eq_getElem (by omega)⟩
theorem OutH.free{w:World}{B n j v:Nat}(h:OutH w B n j v)(k:Nat):w.frozen? ⟨B,k,none⟩=false:=by
 obtain⟨cur,h1,h2,h3⟩:=h;exact Lib.frozen_of_heap h1 k
theorem OutH.step{w:World}{B n j v k:Nat}(h:OutH w B n (j+1) v)(hk:k+1+j=n):OutH (w.setCell ⟨B,k,none⟩ (.int .u8 (dig v j))) B n j v:=by
 obtain⟨cur,h1,h2,h3⟩:=h;refine⟨_,block_setCell h1 _,by rw[Array.size_setIfInBounds,h2],fun i hi hin=>?_⟩;rw[Array.getElem?_setIfInBounds];by_cases e:i=j
 · subst e;rw[if_pos (by omega),if_pos (by omega)]
 · rw[if_neg (by omega)];exact h3 i (by omega) hin
theorem OutH.out{w:World}{B n v:Nat}(h:OutH w B n 0 v):OutB w B n n v:=by
 obtain⟨cur,h1,h2,h3⟩:=h;exact⟨cur,h1,h2,fun j hj=>h3 j (Nat.zero_le _) hj⟩
theorem OutH.lt{w:World}{B n j v:Nat}(h:OutH w B n j v):B<w.heap.size:=by
 obtain⟨cur,h1,_⟩:=h;exact block_lt h1
theorem OutH.heap{w w':World}{B n j v:Nat}(h:OutH w B n j v)(e:w'.heap[B]? =w.heap[B]?):OutH w' B n j v:=by
 obtain⟨cur,h1,h2⟩:=h;exact⟨cur,e.trans h1,h2⟩
theorem OutB.heap{w w':World}{B n j v:Nat}(h:OutB w B n j v)(e:w'.heap[B]? =w.heap[B]?):OutB w' B n j v:=by
 obtain⟨cur,h1,h2⟩:=h;exact⟨cur,e.trans h1,h2⟩
end Go.Proofs.YtfbmbledklbfgaaGreatDoor
