import Derived.Lib.BufferWrite
import Derived.Test.YtdhnkmbjogmmkaaGreatDoorQMlI
set_option linter.unusedVariables false
set_option linter.unusedSimpArgs false
namespace Go.Proofs.YtdhnkmbjogmmkaaGreatDoor
set_option maxRecDepth 100000
set_option maxHeartbeats 4000000
open Go.RowKit
theorem bW_256(q:Nat):bW ^ q=256 ^ (4 * q):=by rw[show bW=256 ^ 4 from by decide,←Nat.pow_mul]
structure LmI (w wr:World) (v L i:Nat) (h:Nat→Nat):Prop where
 row:RowU wr w.heap.size L h
 lt:∀ j,j<L→h j<bW
 v:vW h L=v / 256 ^ i * 256 ^ i
 b:Below w.heap.size w wr
theorem LmI.start{w:World}{v L n:Nat}(hv:v<256 ^ n):LmI w (w.alloc (.cells (zw L) 130)) v L n (fun _=>0):=
 ⟨RowU.start _,fun i _=>by decide,by rw[vW_zero (fun _ _=>rfl),Nat.div_eq_of_lt hv,Nat.zero_mul],(blr).alloc nlr _⟩
theorem LmI.low{w wr:World}{v L q r:Nat}{h:Nat→Nat}(H:LmI w wr v L (4 * q+r+1) h)(hq:q<L)(hr:r<4):h q%2 ^ (8 * (r+1))=0:=by
 rw[vW_eq H.lt H.v q hq];unfold dw;have e:v / 256 ^ (4 * q+r+1) * 256 ^ (4 * q+r+1) / bW ^ q=v / 256 ^ (4 * q+r+1) * 256 ^ (r+1):=by
  rw[bW_256,show 4 * q+r+1=r+1+4 * q from by omega,Nat.pow_add,←Nat.mul_assoc,Nat.mul_div_cancel _ (Nat.pow_pos (by decide))]
 rw[e,show bW=256 ^ (4 - (r+1)) * 256 ^ (r+1)from by rw[←Nat.pow_add,show 4 - (r+1)+(r+1)=4 from by omega],Nat.mul_mod_mul_right,Nat.pow_mul];exact Nat.mul_mod_left _ _
theorem LmI.next{w wr:World}{v L q r:Nat}{h:Nat→Nat}(H:LmI w wr v L (4 * q+r+1) h)(hq:q<L)(hr:r<4){a:Nat}(ha:a=h q+dig v (4 * q+r) * 2 ^ (8 * r)) :
 LmI w (wr.setCell ⟨w.heap.size,q,none⟩ (.int .u32 (a:Int))) v L (4 * q+r) (upd h q a):=by
 have hd:=dig_lt v (4 * q+r);have hlow:=H.low hq hr;have hal:a<bW:=by
  have h1:=H.lt q hq;obtain⟨m,hm⟩:∃ m,h q=2 ^ (8 * (r+1)) * m:=⟨_,(Nat.mul_div_cancel' (Nat.dvd_of_mod_eq_zero hlow)).symm⟩;rw[hm]at h1;have e:bW=2 ^ (8 * (r+1)) * 2 ^ (8 * (3 - r)):=by rw[←Nat.pow_add,show 8 * (r+1)+8 * (3 - r)=32 from by omega]
  rw[e]at h1⊢;have h2:m+1≤2 ^ (8 * (3 - r)):=Nat.lt_of_mul_lt_mul_left h1;have h3:=Nat.mul_le_mul_left (2 ^ (8 * (r+1))) h2;rw[Nat.mul_add,Nat.mul_one]at h3;have h4:dig v (4 * q+r) * 2 ^ (8 * r)<2 ^ (8 * (r+1)):=by
   rw[show 8 * (r+1)=8+8 * r from by omega,Nat.pow_add];exact Nat.mul_lt_mul_of_pos_right hd (Nat.pow_pos (by decide))
  rw[ha,hm];omega
 refine⟨H.row.set a,fun j hj=>?_,?_,H.b.setCell (p:=⟨w.heap.size,q,none⟩) nlr _⟩
 · by_cases e:j=q
   · subst e;rw[upd_at];exact hal
   · rw[upd_off h e];exact H.lt j hj
 · have h1:=vW_upd (f:=h) (k:=q) (x:=a) hq;rw[H.v,ha,Nat.add_mul]at h1;have e1:dig v (4 * q+r) * 2 ^ (8 * r) * bW ^ q=dig v (4 * q+r) * 256 ^ (4 * q+r):=(by rw[bW_256,Nat.mul_assoc,show 2 ^ (8 * r)=256 ^ r from by rw[Nat.pow_mul],←Nat.pow_add,Nat.add_comm r]);have e2:v / 256 ^ (4 * q+r) * 256 ^ (4 * q+r)=v / 256 ^ (4 * q+r+1) * 256 ^ (4 * q+r+1)+dig v (4 * q+r) * 256 ^ (4 * q+r):=(by unfold dig;rw[Nat.pow_succ,←Nat.div_div_eq_div_mul];generalize v / 256 ^ (4 * q+r)=z;rw[←Nat.mul_assoc,Nat.mul_right_comm,←Nat.add_mul];congr 1;omega);rw[e1]at h1;rw[←ha]at h1;rw[e2];omega
theorem mod_limbs_core(v:Nat)(s:ByteArray)(hs:nS v=s)(hn:s.size≤1000)(w:World) :
 Calls Tryz.prog 79 #[.string s] w (RetU v ((s.size+3) / 4) w):=by
 have HS:=Hq hs;have HV:=Hq (show v<256 ^ s.size from by rw[←hs];exact nS_size_le.1 nlr);obtain⟨L,hL⟩:∃ L,(s.size+3) / 4=L:=⟨_,rfl⟩;rw[hL];have hLi:((s.size:Int)+3) / 4=(L:Int):=by rw[←hL];omega
 have hLi2:((s.size:Int)+3).tdiv 4=(L:Int):=by rw[Int.tdiv_eq_ediv_of_nonneg (by omega)];exact hLi
 have HL:=Hq hL;have hmk:=fun(w:World)=>make_u32s L (by omega) w;clear hs hL;go_enter Tryz.func79,Tryz.ntmps79;go_wp2;clear hmk;go_loopw [13] (fun i wr=>∃(k:Nat) (h:Nat→Nat),k≤s.size∧i=.int .i64 k∧LmI w wr v L (s.size - k) h) (fun i _=>s.size - (RowKit.intOf i).toNat);case atStart=>exact⟨0,_,Nat.zero_le _,rfl,LmI.start HV.out⟩
 case round =>
  obtain⟨k,h,hk,rfl,hP⟩:=hrel;have HP:=Hq hP;clear hP;by_cases hlt:k<s.size
  · obtain⟨i,hik⟩:∃ i,i+1+k=s.size:=⟨s.size - 1 - k,by omega⟩;obtain⟨q,r,hr,hqr⟩:∃ q r,r<4∧4 * q+r=i:=⟨i / 4,i%4,Nat.mod_lt _ (by decide),Nat.div_add_mod i 4⟩;have hix:(s.size:Int) - 1 - (k:Int)=(i:Int):=by omega
    have hq1:(i:Int) / 4=(q:Int):=by omega
    have hq2:(i:Int).tdiv 4=(q:Int):=by rw[Int.tdiv_eq_ediv_of_nonneg (by omega)];exact hq1
    have hr1:(i:Int)%4=(r:Int):=by omega
    have hr2:(i:Int).tmod 4=(r:Int):=by rw[Int.tmod_eq_emod_of_nonneg (by omega)];exact hr1
    have hqL:q<L:=by have:=HL.out;omega
    have hP:=HP.out;rw[show s.size - k=4 * q+r+1 from by omega]at hP;have HP2:=Hq hP;have hby:(s[k]).toNat=dig v i:=(by have h0:=HS.out;subst h0;exact nS_byte v i k (by omega) hlt);have ho:=hP.row.cell hqL;have hfr:=hP.row.free q;have hlow:=hP.low hqL hr;have hdl:=dig_lt v i;obtain⟨d,hd⟩:∃ d,dig v i=d:=⟨_,rfl⟩;rw[hd]at hby hdl;have HD:=Hq hd;have HIK:=Hq (And.intro hik hqr);have hri:(r:Int)<4:=by omega
    have hx1:d * 2 ^ (8 * r)<2 ^ (8 * (r+1)):=(by rw[show 8 * (r+1)=8+8 * r from by omega,Nat.pow_add];exact Nat.mul_lt_mul_of_pos_right hdl (Nat.pow_pos (by decide)));have hx2:2 ^ (8 * (r+1))≤2 ^ 32:=Nat.pow_le_pow_right (by decide) (by omega);have hor:=u32_or_join (s:=8 * (r+1)) hlow hx1 (hP.lt q hqL) (Nat.lt_of_lt_of_le hx1 hx2);have hsh:(d:Int) * 2 ^ (8 * r)%4294967296=((d * 2 ^ (8 * r):Nat):Int):=(by rw[show (d:Int) * 2 ^ (8 * r)=((d * 2 ^ (8 * r):Nat):Int)from by simp];have:=Nat.lt_of_lt_of_le hx1 hx2;omega);have hw8:IntKind.i64.wrap (8 * (r:Int))=8 * (r:Int):=by rw[IntKind.wrap_i64];omega
    have hw1:IntKind.i64.wrap (q:Int)=(q:Int):=by rw[IntKind.wrap_i64];have:=HL.out;omega
    have hw2:(0:Int)≤(q:Int):=by omega
    have hw3:(q:Int)<(L:Int):=by omega
    obtain⟨x,hx⟩:∃ x,d * 2 ^ (8 * r)=x:=⟨_,rfl⟩;rw[hx]at hor hsh;have HX:=Hq hx;obtain⟨z,hz⟩:∃ z,h q=z:=⟨_,rfl⟩;rw[hz]at ho hor;have HZ:=Hq hz;clear hP hd hik hqr hlow hx1 hx2 hx hz;go_wp2;obtain⟨wd,hwd⟩:∃ wd,wr.drew=wd:=⟨_,rfl⟩;have hbd:Below wr.heap.size wr wd:=by rw[←hwd];exact(blr).drew
    have c0:=kc hbd ho;have f0:=(HP2.out.row.next hbd).free q;have HBD:=Hq hbd;clear ho hfr hbd;refine wp_region_K 15 (Below (wd).heap.size (wd)) (by kernel_rfl) ?_;intro hD;rw[hwd];refine qPD 0 21 15 rfl hD blr ?_;clear hD;intro hD;simp only[Act.put,sqA,sqB,sqC];refine qPD 1 22 14 rfl hD blr ?_;clear hD;intro hD;simp only[Act.put,sqA,sqB,sqC];refine qPD 2 23 13 rfl hD blr ?_;clear hD;intro hD;simp only[Act.put,sqA,sqB,sqC];refine qPD 3 24 12 rfl hD blr ?_;clear hD;intro hD;simp only[Act.put,sqA,sqB,sqC];refine qTD 4 25 11 rfl hD blr (by intro w' hS';have e0:=kC hS' c0;go_simp;with_reducible rfl) ?_;clear hD;intro hD;simp only[Act.put,sqA,sqB,sqC];refine qPD 5 26 10 rfl hD blr ?_;clear hD;intro hD;simp only[Act.put,sqA,sqB,sqC];refine qPD 6 27 9 rfl hD blr ?_;clear hD;intro hD;simp only[Act.put,sqA,sqB,sqC];refine qPD 7 28 8 rfl hD blr ?_;clear hD;intro hD;simp only[Act.put,sqA,sqB,sqC];refine qPD 8 29 7 rfl hD blr ?_;clear hD;intro hD;simp only[Act.put,sqA,sqB,sqC];refine qPD 9 30 6 rfl hD blr ?_;clear hD;intro hD;simp only[Act.put,sqA,sqB,sqC];refine qPD 10 31 5 rfl hD blr ?_;clear hD;intro hD;simp only[Act.put,sqA,sqB,sqC];refine qPD 11 32 4 rfl hD blr ?_;clear hD;intro hD;simp only[Act.put,sqA,sqB,sqC];refine qPD 12 33 3 rfl hD blr ?_;clear hD;intro hD;simp only[Act.put,sqA,sqB,sqC];refine qPD 13 34 2 rfl hD blr ?_;clear hD;intro hD;simp only[Act.put,sqA,sqB,sqC];refine qPD 14 35 1 rfl hD blr ?_;clear hD;intro hD;simp only[Act.put,sqA,sqB,sqC];refine wpAnyK_oneT (i:=15) (fuel:=0) (by kernel_rfl) rfl hD (by kernel_rfl) ?_;clear hD;intro K15 hK15;go_wp2;refine hK15 _ _ ?_;clear hK15;intro hD;refine wpAnyK_done (by kernel_rfl) ?_ 0;clear hD c0 f0;have hv:bits BinOp.or IntKind.u32 (z:Int) ((d:Int) * 2 ^ (8 * r)%4294967296)=((z+x:Nat):Int):=by rw[hsh];exact hor
    rw[hv];have hst:LmI w wd v L (4 * q+r+1) h:=⟨HP2.out.row.next HBD.out,HP2.out.lt,HP2.out.v,HP2.out.b.trans (HBD.out.mono HP2.out.b.size)⟩;have hnx:=hst.next hqL hr (a:=z+x) (by rw[HZ.out,←HX.out,←HD.out,HIK.out.2]);have HNX:=Hq hnx;obtain⟨we,hwe⟩:∃ W,wd.setCell ⟨w.heap.size,q,none⟩ (.int .u32 ((z+x:Nat):Int))=W:=⟨_,rfl⟩;rw[hwe]at HNX⊢;clear hst hnx hwe hv hsh hor;go_wp2;have hf:=HNX.out;rw[show 4 * q+r=s.size - (k+1)from by have:=HIK.out;omega]at hf;exact⟨⟨k+1,_,by omega,by go_num,hf⟩,by simp[RowKit.intOf];omega⟩
  · obtain rfl:k=s.size:=by omega
    clear hlt;go_wp2;go_ret;refine⟨h,by simp,HP.out.row,HP.out.lt,?_,HP.out.b⟩;rw[HP.out.v,Nat.sub_self,Nat.pow_zero,Nat.mul_one,Nat.div_one]
set_option maxRecDepth 100000
set_option maxHeartbeats 4000000
open Go.RowKit Go.Lib
theorem own_bytesM{w:World}{base:Nat}{v:Value}{l:List UInt8}(h:w.ownsRow base 5 1 v l.length (Lib.byteCells l)):∃ A c,v=.slice A l.length c∧BytesAt w A l.length c l:=by
 rcases h.2 with⟨hv,h0⟩ | ⟨g,cap,cur,hv,_,_,h1,h2,_⟩
 · refine⟨none,0,?_,rfl,by omega,by omega,fun h=>by omega⟩;rw[hv,h0]
 · refine⟨some ⟨g,0,none⟩,cap,hv,rfl,h1,by unfold maxLen at h2;exact h2,fun _=>⟨g,0,rfl,fun k hk=>?_⟩⟩;have:=World.ownsRow.cells h (by rw[hv];rfl) k (.int .u8 (byteI l k)) (by
    unfold Lib.byteCells byteI;rw[List.getElem?_map,List.getElem?_eq_getElem hk,List.getD_eq_getElem?_getD,List.getElem?_eq_getElem hk]
    rfl)
   rwa[Addr.add_lit]at this
def wb(x:Nat):List UInt8:=[UInt8.ofNat (x / 16777216),UInt8.ofNat (x / 65536),UInt8.ofNat (x / 256),UInt8.ofNat x]
theorem wb_bnat{x:Nat}(h:x<bW):bnat (wb x)=x:=by
 unfold wb;rw[bnat_cons,bnat_cons,bnat_cons,bnat_cons,bnat_nil];simp only[List.length_cons,List.length_nil,UInt8.toNat_ofNat'];unfold bW at h;omega
theorem wb_cells{x:Nat}(h:x<bW):Lib.byteCells (wb x)=[.int .u8 ((x:Int) / 16777216),.int .u8 ((x:Int) / 65536%256),.int .u8 ((x:Int) / 256%256),.int .u8 ((x:Int)%256)]:=by
 unfold wb Lib.byteCells;simp only[List.map_cons,List.map_nil,UInt8.toNat_ofNat'];unfold bW at h;rw[show ((x / 16777216%2 ^ 8:Nat):Int)=(x:Int) / 16777216 from by omega];rfl
theorem mod_number(A:Option Addr)(n c:Nat)(f:Nat→Nat)(w:World)(h1:SlU w A n c f)(hn:n≤10000):Calls Tryz.prog 76 #[.slice A n c] w (Ret (.string (nS (vW f n))) w):=by
 have HT:=Hq (fun(W:World) (h:SlU W A n c f)=>mod_trim A n c f W h);have H1:=Hq h1;clear h1;go_enter Tryz.func76,Tryz.ntmps76;go_wp2_with fail;refine(HT.out w H1.out).mono ?_;rintro e w' ⟨m,hm,rfl,rfl,hz,_⟩;have HV:=Hq (show vW f n=vW f m from vW_top hm hz);have HM:=Hq (H1.out.part hm);have hc1:=HM.out.1;have hc2:=HM.out.2.1;clear hz;go_wp2;go_loopw [3,4] (fun v i wr=>∃(k:Nat) (L:List UInt8),k≤m∧i=.int .i64 ((k:Int) - 1)∧wr.ownsRow w'.heap.size 5 1 v L.length (Lib.byteCells L)∧bnat L=vW f m / bW ^ k∧L.length+4 * k=4 * m∧Below w'.heap.size w' wr) (fun _ i _=>(RowKit.intOf i+1).toNat);case atStart=>exact⟨m,[],Nat.le_refl _,by go_num,World.ownsRow_nil _ _ _ _,by rw[Nat.div_eq_of_lt (vW_lt HM.out.2.2.1)];rfl,by simp,Below.refl _ _⟩
 case round =>
  obtain⟨k,L,hk,rfl,hown,hb,hl,hbb⟩:=hrel;have HO:=Hq hown;have HB:=Hq hb;have HL:=Hq hl;have HBB:=Hq hbb;clear hown hb hl hbb;rcases Nat.eq_zero_or_pos k with h0 | h0
  · subst h0;rw[show ((0:Nat):Int) - 1 = -1 from rfl];obtain⟨A5,c5,rfl,hba⟩:=own_bytesM HO.out;have HBA:=Hq hba;have HE:=Hq (show bstr (trimZ L)=nS (vW f n)from by
     have h:=HB.out;rw[Nat.pow_zero,Nat.div_one]at h;rw[trimZ_eq,h,HV.out]
     rfl)
    obtain⟨wz,hwz⟩:∃ V,V=wr:=⟨_,rfl⟩;subst hwz;clear hba;go_wp2;go_loopw [3] (fun v wx=>TrRel wz L v∧wx=wz) (fun v _=>sliceLen v);case atStart=>exact⟨⟨A5,_,c5,L,rfl,HBA.out,rfl⟩,rfl⟩
    case round =>
     obtain⟨⟨A',len',cap',bs',rfl,hB,hd⟩,rfl⟩:=hrel;have HD:=Hq hd;clear hd;have hconv:=BytesAt.conv hB 97 22 5 Tryz.underlying97 Tryz.underlying5 Tryz.underlying22;by_cases h0:0<len'
     · obtain⟨b,o,rfl,hcel⟩:=hB.2.2.2 h0;have hl:=hB.1;have hcap:len'≤cap':=hB.2.1;have hm:cap'≤9223372036854775807:=hB.2.2.1;have hT:=hB.tail h0;have HB:=Hq hT;have hc0:=hcel 0 h0;simp only[Nat.add_zero]at hc0;clear hcel hT hB;by_cases hz:byteI bs' 0=0
       · have hr:trimZ (bs'.drop 1)=trimZ L:=by rw[←HD.out,trimZ_zero (by omega) hz]
         have HL:=Hq hl;have HR:=Hq hr;have hz2:(byteI bs' 0==0)=true:=beq_iff_eq.2 hz;clear hl hr hconv hz;go_wp2;exact⟨⟨⟨_,_,_,_,rfl,HB.out,HR.out⟩,trivial⟩,by show len' - 1<len';omega⟩
       · have hz2:(byteI bs' 0==0)=false:=beq_eq_false_iff_ne.2 hz;have hr:trimZ L=bs':=by rw[←HD.out];exact trimZ_stop (.inr hz)
         have HL:=Hq hl;have HR:=Hq (show Ending.returned (.string (bstr bs'))=.returned (.string (nS (vW f n)))from by rw[←HE.out,hr]);clear hl hr hz;go_wp2;go_ret;exact⟨HR.out,HBB.out⟩
     · have h00:len'=0:=by omega
       subst h00;have hl:=hB.1;have hr:trimZ L=bs':=by rw[←HD.out];exact trimZ_stop (.inl hl)
       have HR:=Hq (show Ending.returned (.string (bstr bs'))=.returned (.string (nS (vW f n)))from by rw[←HE.out,hr]);clear hr hl hB h0;go_wp2;go_ret;exact⟨HR.out,HBB.out⟩
  · obtain⟨j,rfl⟩:∃ j,k=j+1:=⟨k - 1,by omega⟩;rw[show ((j+1:Nat):Int) - 1=(j:Int)from by omega];obtain⟨b,o,hA,hx⟩:=(HM.out.kept HBB.out nlr).cell (k:=j) (by omega);have hxl:=HM.out.2.2.1 j (by omega);obtain⟨x,hxe⟩:∃ x,f j=x:=⟨_,rfl⟩;rw[hxe]at hx hxl;have HXE:=Hq hxe;have HXL:=Hq hxl;clear hxe;unfold bW at hxl;subst hA;go_wp2;obtain⟨wd,hwd⟩:∃ wd,wr.drew=wd:=⟨_,rfl⟩;have hbd:Below wr.heap.size wr wd:=by rw[←hwd];exact(blr).drew
    have c0:=kc hbd hx;have HOD:=Hq (owns_kept HO.out hbd nlr);have HBD:=Hq (HBB.out.trans (hbd.mono HBB.out.size));have hjm:(j:Int)<(m:Int):=by omega
    clear hbd hx;refine wp_region_K 25 (Below (wd).heap.size (wd)) (by kernel_rfl) ?_;intro hD;rw[hwd];refine qPD 0 14 26 rfl hD blr ?_;clear hD;intro hD;simp only[Act.put,sqA,sqB,sqC];refine qPD 1 15 25 rfl hD blr ?_;clear hD;intro hD;simp only[Act.put,sqA,sqB,sqC];refine qPD 2 16 24 rfl hD blr ?_;clear hD;intro hD;simp only[Act.put,sqA,sqB,sqC];refine qPD 3 17 23 rfl hD blr ?_;clear hD;intro hD;simp only[Act.put,sqA,sqB,sqC];refine qTD 4 18 22 rfl hD blr (by intro w' hS';have e0:=kC hS' c0;go_simp;with_reducible rfl) ?_;clear hD;intro hD;simp only[Act.put,sqA,sqB,sqC];refine qPD 5 19 21 rfl hD blr ?_;clear hD;intro hD;simp only[Act.put,sqA,sqB,sqC];refine qPD 6 20 20 rfl hD blr ?_;clear hD;intro hD;simp only[Act.put,sqA,sqB,sqC];refine qPD 7 21 19 rfl hD blr ?_;clear hD;intro hD;simp only[Act.put,sqA,sqB,sqC];refine qPD 8 22 18 rfl hD blr ?_;clear hD;intro hD;simp only[Act.put,sqA,sqB,sqC];refine qPD 9 23 17 rfl hD blr ?_;clear hD;intro hD;simp only[Act.put,sqA,sqB,sqC];refine qTD 10 24 16 rfl hD blr (by intro w' hS';have e0:=kC hS' c0;go_simp;with_reducible rfl) ?_;clear hD;intro hD;simp only[Act.put,sqA,sqB,sqC];refine qPD 11 25 15 rfl hD blr ?_;clear hD;intro hD;simp only[Act.put,sqA,sqB,sqC];refine qPD 12 26 14 rfl hD blr ?_;clear hD;intro hD;simp only[Act.put,sqA,sqB,sqC];refine qPD 13 27 13 rfl hD blr ?_;clear hD;intro hD;simp only[Act.put,sqA,sqB,sqC];refine qPD 14 28 12 rfl hD blr ?_;clear hD;intro hD;simp only[Act.put,sqA,sqB,sqC];refine qPD 15 29 11 rfl hD blr ?_;clear hD;intro hD;simp only[Act.put,sqA,sqB,sqC];refine qTD 16 30 10 rfl hD blr (by intro w' hS';have e0:=kC hS' c0;go_simp;with_reducible rfl) ?_;clear hD;intro hD;simp only[Act.put,sqA,sqB,sqC];refine qPD 17 31 9 rfl hD blr ?_;clear hD;intro hD;simp only[Act.put,sqA,sqB,sqC];refine qPD 18 32 8 rfl hD blr ?_;clear hD;intro hD;simp only[Act.put,sqA,sqB,sqC];refine qPD 19 33 7 rfl hD blr ?_;clear hD;intro hD;simp only[Act.put,sqA,sqB,sqC];refine qPD 20 34 6 rfl hD blr ?_;clear hD;intro hD;simp only[Act.put,sqA,sqB,sqC];refine qPD 21 35 5 rfl hD blr ?_;clear hD;intro hD;simp only[Act.put,sqA,sqB,sqC];refine qTD 22 36 4 rfl hD blr (by intro w' hS';have e0:=kC hS' c0;go_simp;with_reducible rfl) ?_;clear hD;intro hD;simp only[Act.put,sqA,sqB,sqC];refine qPD 23 37 3 rfl hD blr ?_;clear hD;intro hD;simp only[Act.put,sqA,sqB,sqC];refine rO 24 2 rfl hD ?_;clear hD;intro K24 hK24;go_wp2;refine hK24 _ _ (by exact(blr).alloc nlr _) ?_;clear hK24;intro hS_6_24 hD;refine wpAnyK_oneT (i:=25) (fuel:=1) (by kernel_rfl) rfl hD (by kernel_rfl) ?_;clear hD;intro K25 hK25;obtain⟨i0,hi,iz0,iz1,iz2⟩:=info_parts u8_info;refine wpList_append_own _ rfl (.tmp 14) (.tmp 38) 97 rfl w'.heap.size 5 i0 _ 1 1 Tryz.underlying97 hi iz0 iz1 iz2 rfl (by decide) _ L.length (Lib.byteCells L) rfl (HOD.out.alloc _) ⟨wd.heap.size,0,none⟩ 4 4 (Lib.byteCells (wb x)) rfl rfl ?_ (byteCells_one _) (by unfold maxLen;have:=HL.out;omega) (by have:=HL.out;omega) (by have:=HBD.out.size;simp;omega) ?_
    · intro j u hj;rw[wb_cells HXL.out]at hj;exact World.news_of_block (heap_alloc_new _ _) j u hj
    intro v5 w5 hown hgr _;have HO5:=Hq (show w5.ownsRow w'.heap.size 5 1 v5 (L++wb x).length (Lib.byteCells (L++wb x))from by rw[byteCells_append,List.length_append];exact hown);have HB5:=Hq (Below.grown (HBD.out.alloc HBD.out.size _) hgr (by have:=HBD.out.size;simp;omega) (fun k hk=>(HOD.out.lt k hk).1));clear hown hgr hi iz0 iz1 iz2;go_wp2;refine hK25 _ _ ?_;clear hK25;intro hD;refine wpAnyK_oneT (i:=26) (fuel:=0) (by kernel_rfl) rfl hD (by kernel_rfl) ?_;clear hD;intro K26 hK26;go_wp2;refine hK26 _ _ ?_;clear hK26;intro hD;refine wpAnyK_done (by kernel_rfl) ?_ 0;clear hD c0;go_wp2;refine⟨⟨j,L++wb x,by omega,rfl,HO5.out,?_,by rw[List.length_append];show L.length+4+4 * j=_;have:=HL.out;omega,HB5.out⟩,by simp[RowKit.intOf]⟩;rw[bnat_append,wb_bnat HXL.out,HB.out];show vW f m / bW ^ (j+1) * 256 ^ 4+x=_;have hdv:dw (vW f m) j=x:=by rw[dw_vW HM.out.2.2.1 (by omega)];exact HXE.out
    unfold dw at hdv;rw[Nat.pow_succ,←Nat.div_div_eq_div_mul,←hdv];rw[show (256:Nat) ^ 4=bW from by decide,Nat.mul_comm];exact Nat.div_add_mod _ _
set_option maxRecDepth 100000
set_option maxHeartbeats 4000000
theorem RetU.sl{v n:Nat}{w w':World}{h:Nat→Nat}(hr:RowU w' w.heap.size n h)(hl:∀ i,i<n→h i<bW)(hn:n≤1000):SlU w' (some ⟨w.heap.size,0,none⟩) n n h:=hr.sl hl (by omega)
theorem mod_timesL_core(x y m:Nat)(s t u:ByteArray)(hs:nS x=s)(ht:nS y=t)(hu:nS m=u)(hx:s.size≤128)(hy:t.size≤128)(hm:u.size≤128)(h0:0<m)(hbig:8<s.size∨8<t.size∨8<u.size)(w:World) :
 Calls Tryz.prog 42 #[.string s,.string t,.string u] w (Ret (.string (nS (x * y%m))) w):=by
 have HL1:=Hq (fun(W:World)=>mod_limbs_core x s hs (by omega) W);have HL2:=Hq (fun(W:World)=>mod_limbs_core y t ht (by omega) W);have HL3:=Hq (fun(W:World)=>mod_limbs_core m u hu (by omega) W);have HM0:=Hq h0;have hn1:(s.size+3) / 4≤32:=by omega
 have hn2:(t.size+3) / 4≤32:=by omega
 have hn3:(u.size+3) / 4≤32:=by omega
 obtain⟨n1,hn1e⟩:∃ n,(s.size+3) / 4=n:=⟨_,rfl⟩;obtain⟨n2,hn2e⟩:∃ n,(t.size+3) / 4=n:=⟨_,rfl⟩;obtain⟨n3,hn3e⟩:∃ n,(u.size+3) / 4=n:=⟨_,rfl⟩;rw[hn1e]at HL1 hn1;rw[hn2e]at HL2 hn2;rw[hn3e]at HL3 hn3;obtain⟨R,hR⟩:∃ r,nS (x * y%m)=r:=⟨_,rfl⟩;rw[hR];have HR:=Hq hR;have hc1:((s.size:Int)≤8)=True∨((s.size:Int)≤8)=False:=by by_cases h:(s.size:Int)≤8;exact .inl (eq_true h);exact .inr (eq_false h)
 have hc2:((t.size:Int)≤8)=True∨((t.size:Int)≤8)=False:=by by_cases h:(t.size:Int)≤8;exact .inl (eq_true h);exact .inr (eq_false h)
 have hc3:((u.size:Int)≤8)=True∨((u.size:Int)≤8)=False:=by by_cases h:(u.size:Int)≤8;exact .inl (eq_true h);exact .inr (eq_false h)
 have hno:¬ ((s.size:Int)≤8∧(t.size:Int)≤8∧(u.size:Int)≤8):=by omega
 clear hs ht hu hx hy hm h0 hbig hR hn1e hn2e hn3e;go_enter Tryz.func42,Tryz.ntmps42;rcases hc1 with hc1 | hc1
 · rcases hc2 with hc2 | hc2
   · have hc3:((u.size:Int)≤8)=False:=eq_false (fun h=>hno ⟨of_eq_true hc1,of_eq_true hc2,h⟩);clear hno;go_wp2_with fail;refine(HL1.out w).mono ?_;rintro e w1 ⟨f,rfl,hf,hfl,hfv,hb1⟩;have HF:=Hq (hf.sl hfl (by omega));have HFV:=Hq hfv;have HB1:=Hq hb1;clear hf hfl hfv hb1;go_wp2_with fail;refine(HL2.out w1).mono ?_;rintro e w2 ⟨g,rfl,hg,hgl,hgv,hb2⟩;have HG:=Hq (hg.sl hgl (by omega));have HGV:=Hq hgv;have HB2:=Hq (HB1.out.trans (hb2.mono HB1.out.size));have HPR:=Hq (mod_product _ _ _ f _ _ _ g w2 (HF.out.kept hb2 nlr) HG.out (by omega));rw[HFV.out,HGV.out]at HPR;clear hg hgl hgv hb2;go_wp2_with fail;refine(show Calls _ _ _ _ _ from HPR.out).mono ?_;rintro e w3 ⟨p,rfl,hp,hpl,hpv,hb3⟩;have HPS:=Hq (hp.sl hpl (by omega));have HPV:=Hq hpv;have HB3:=Hq (HB2.out.trans (hb3.mono HB2.out.size));clear hp hpl hpv hb3;go_wp2_with fail;refine(HL3.out w3).mono ?_;rintro e w4 ⟨k,rfl,hk,hkl,hkv,hb4⟩;have HK:=Hq (hk.sl hkl (by omega));have HKV:=Hq hkv;have HB4:=Hq (HB3.out.trans (hb4.mono HB3.out.size));have HRM:=Hq (mod_remainder _ _ _ p _ _ _ k w4 (HPS.out.kept hb4 nlr) HK.out (by omega) (by omega) (by rw[HKV.out];exact HM0.out));rw[HPV.out,HKV.out]at HRM;clear hk hkl hkv hb4;go_wp2_with fail;refine(show Calls _ _ _ _ _ from HRM.out).mono ?_;rintro e w5 ⟨A,n,c,r,rfl,hr,hn,hv,hb5⟩;have HB5:=Hq (HB4.out.trans (hb5.mono HB4.out.size));have HNB:=Hq (mod_number A n c r w5 hr (by omega));rw[hv,HR.out]at HNB;clear hr hv hb5;go_wp2_with fail;refine(show Calls _ _ _ _ _ from HNB.out).mono ?_;rintro e w6 ⟨rfl,hb6⟩;have HB6:=Hq (HB5.out.trans (hb6.mono HB5.out.size));clear hb6;go_wp2;go_ret;exact⟨rfl,HB6.out⟩
   · clear hno hc3;go_wp2_with fail;refine(HL1.out w).mono ?_;rintro e w1 ⟨f,rfl,hf,hfl,hfv,hb1⟩;have HF:=Hq (hf.sl hfl (by omega));have HFV:=Hq hfv;have HB1:=Hq hb1;clear hf hfl hfv hb1;go_wp2_with fail;refine(HL2.out w1).mono ?_;rintro e w2 ⟨g,rfl,hg,hgl,hgv,hb2⟩;have HG:=Hq (hg.sl hgl (by omega));have HGV:=Hq hgv;have HB2:=Hq (HB1.out.trans (hb2.mono HB1.out.size));have HPR:=Hq (mod_product _ _ _ f _ _ _ g w2 (HF.out.kept hb2 nlr) HG.out (by omega));rw[HFV.out,HGV.out]at HPR;clear hg hgl hgv hb2;go_wp2_with fail;refine(show Calls _ _ _ _ _ from HPR.out).mono ?_;rintro e w3 ⟨p,rfl,hp,hpl,hpv,hb3⟩;have HPS:=Hq (hp.sl hpl (by omega));have HPV:=Hq hpv;have HB3:=Hq (HB2.out.trans (hb3.mono HB2.out.size));clear hp hpl hpv hb3;go_wp2_with fail;refine(HL3.out w3).mono ?_;rintro e w4 ⟨k,rfl,hk,hkl,hkv,hb4⟩;have HK:=Hq (hk.sl hkl (by omega));have HKV:=Hq hkv;have HB4:=Hq (HB3.out.trans (hb4.mono HB3.out.size));have HRM:=Hq (mod_remainder _ _ _ p _ _ _ k w4 (HPS.out.kept hb4 nlr) HK.out (by omega) (by omega) (by rw[HKV.out];exact HM0.out));rw[HPV.out,HKV.out]at HRM;clear hk hkl hkv hb4;go_wp2_with fail;refine(show Calls _ _ _ _ _ from HRM.out).mono ?_;rintro e w5 ⟨A,n,c,r,rfl,hr,hn,hv,hb5⟩;have HB5:=Hq (HB4.out.trans (hb5.mono HB4.out.size));have HNB:=Hq (mod_number A n c r w5 hr (by omega));rw[hv,HR.out]at HNB;clear hr hv hb5;go_wp2_with fail;refine(show Calls _ _ _ _ _ from HNB.out).mono ?_;rintro e w6 ⟨rfl,hb6⟩;have HB6:=Hq (HB5.out.trans (hb6.mono HB5.out.size));clear hb6;go_wp2;go_ret;exact⟨rfl,HB6.out⟩
 · clear hno hc2 hc3;go_wp2_with fail;refine(HL1.out w).mono ?_;rintro e w1 ⟨f,rfl,hf,hfl,hfv,hb1⟩;have HF:=Hq (hf.sl hfl (by omega));have HFV:=Hq hfv;have HB1:=Hq hb1;clear hf hfl hfv hb1;go_wp2_with fail;refine(HL2.out w1).mono ?_;rintro e w2 ⟨g,rfl,hg,hgl,hgv,hb2⟩;have HG:=Hq (hg.sl hgl (by omega));have HGV:=Hq hgv;have HB2:=Hq (HB1.out.trans (hb2.mono HB1.out.size));have HPR:=Hq (mod_product _ _ _ f _ _ _ g w2 (HF.out.kept hb2 nlr) HG.out (by omega));rw[HFV.out,HGV.out]at HPR;clear hg hgl hgv hb2;go_wp2_with fail;refine(show Calls _ _ _ _ _ from HPR.out).mono ?_;rintro e w3 ⟨p,rfl,hp,hpl,hpv,hb3⟩;have HPS:=Hq (hp.sl hpl (by omega));have HPV:=Hq hpv;have HB3:=Hq (HB2.out.trans (hb3.mono HB2.out.size));clear hp hpl hpv hb3;go_wp2_with fail;refine(HL3.out w3).mono ?_;rintro e w4 ⟨k,rfl,hk,hkl,hkv,hb4⟩;have HK:=Hq (hk.sl hkl (by omega));have HKV:=Hq hkv;have HB4:=Hq (HB3.out.trans (hb4.mono HB3.out.size));have HRM:=Hq (mod_remainder _ _ _ p _ _ _ k w4 (HPS.out.kept hb4 nlr) HK.out (by omega) (by omega) (by rw[HKV.out];exact HM0.out));rw[HPV.out,HKV.out]at HRM;clear hk hkl hkv hb4;go_wp2_with fail;refine(show Calls _ _ _ _ _ from HRM.out).mono ?_;rintro e w5 ⟨A,n,c,r,rfl,hr,hn,hv,hb5⟩;have HB5:=Hq (HB4.out.trans (hb5.mono HB4.out.size));have HNB:=Hq (mod_number A n c r w5 hr (by omega));rw[hv,HR.out]at HNB;clear hr hv hb5;go_wp2_with fail;refine(show Calls _ _ _ _ _ from HNB.out).mono ?_;rintro e w6 ⟨rfl,hb6⟩;have HB6:=Hq (HB5.out.trans (hb6.mono HB5.out.size));clear hb6;go_wp2;go_ret;exact⟨rfl,HB6.out⟩
theorem mod_timesA(x y m:Nat)(hx:x<256 ^ 128)(hy:y<256 ^ 128)(hm:m<256 ^ 128)(h0:0<m)(w:World):Calls Tryz.prog 42 #[.string (nS x),.string (nS y),.string (nS m)] w (Ret (.string (nS (x * y%m))) w):=by
 by_cases h1:x<18446744073709551616
 · by_cases h2:y<18446744073709551616
   · by_cases h3:m<18446744073709551616
     · exact mod_times x y m h1 h2 h3 h0 w
     · exact mod_timesL_core x y m _ _ _ rfl rfl rfl (nS_size_le.2 hx) (nS_size_le.2 hy) (nS_size_le.2 hm) h0 (Or.inr (Or.inr (by
        rcases Nat.lt_or_ge 8 (nS m).size with h | h
        · exact h
        · exact absurd (nS_size_le.1 h) h3))) w
   · exact mod_timesL_core x y m _ _ _ rfl rfl rfl (nS_size_le.2 hx) (nS_size_le.2 hy) (nS_size_le.2 hm) h0 (Or.inr (Or.inl (by
      rcases Nat.lt_or_ge 8 (nS y).size with h | h
      · exact h
      · exact absurd (nS_size_le.1 h) h2))) w
 · exact mod_timesL_core x y m _ _ _ rfl rfl rfl (nS_size_le.2 hx) (nS_size_le.2 hy) (nS_size_le.2 hm) h0 (Or.inl (by
    rcases Nat.lt_or_ge 8 (nS x).size with h | h
    · exact h
    · exact absurd (nS_size_le.1 h) h1)) w
end Go.Proofs.YtdhnkmbjogmmkaaGreatDoor
