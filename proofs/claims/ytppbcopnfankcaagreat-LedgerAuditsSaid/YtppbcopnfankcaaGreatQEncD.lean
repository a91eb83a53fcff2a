import Derived.Test.YtppbcopnfankcaaGreatQEncB
import Derived.Test.YtppbcopnfankcaaGreatQShelf
import Derived.BigQuiet
set_option linter.unusedVariables false
set_option linter.unusedSimpArgs false
namespace Go.Proofs.YtppbcopnfankcaaGreat
set_option maxRecDepth 100000
set_option maxHeartbeats 400000
open Go.RowKit
theorem zh(a:ByteArray)(h:a.size≤9223372036854775807)(w:World) :
 Calls Tryz.prog 64 #[.string a] w (RetQ (.bool (zc a)) w):=by
 by_cases h1:a.size≤128
 · by_cases h2:a.size=0
   · rw[zdg h2];go_enter Tryz.func64,Tryz.ntmps64;go_wp2;go_ret;exact⟨rfl,rfl⟩
   · have h3:0<a.size:=by omega
     have h4:((a.size:Int)==0)=false:=beq_eq_false_iff_ne.2 (by omega);rw[zcb h1 h3];go_enter Tryz.func64,Tryz.ntmps64;go_wp2;go_ret;exact⟨rfl,rfl⟩
 · rw[zcc h1];go_enter Tryz.func64,Tryz.ntmps64;go_wp2;go_ret;exact⟨rfl,rfl⟩
theorem zo(a:ByteArray)(h:a.size≤9223372036854775807)(w:World) :
 Calls Tryz.prog 85 #[.string a] w (RetQ (.bool (zc a)) w):=by
 by_cases h1:a.size≤128
 · by_cases h2:a.size=0
   · rw[zdg h2];have h3:=zz h2;go_enter Tryz.func85,Tryz.ntmps85;go_wp2;go_ret;exact⟨rfl,rfl⟩
   · have h3:0<a.size:=by omega
     have h4:=j4 h3;rw[zcb h1 h3];go_enter Tryz.func85,Tryz.ntmps85;go_wp2;go_ret;exact⟨rfl,rfl⟩
 · rw[zcc h1];go_enter Tryz.func85,Tryz.ntmps85;go_wp2;go_ret;exact⟨rfl,rfl⟩
def zz5(w:World)(bs:List UInt8)(v:Value):Prop:=∃ A len cap bs',v=.slice A len cap∧BytesAt w A len cap bs'∧xc bs'=xc bs
theorem qw(A:Option Addr)(len cap:Nat)(bs:List UInt8)(w:World)(h:BytesAt w A len cap bs) :
 Calls Tryz.prog 107 #[.slice A len cap] w (RetQ (.string (bstr (xc bs))) w):=by
 go_enter Tryz.func107,Tryz.ntmps107;go_wp2
 go_loop [0] (fun v=>zz5 w bs v) (fun v=>za2 v)
 case atStart=>exact⟨A,len,cap,bs,rfl,h,rfl⟩
 case round =>
  clear h;obtain⟨A',len',cap',bs',rfl,hB,hd⟩:=hrel;have HD:=Hq hd;clear hd;have hconv:=BytesAt.conv hB 130 22 5 Tryz.underlying130 Tryz.underlying5 Tryz.underlying22;by_cases h0:0<len'
  · obtain⟨b,o,rfl,hcel⟩:=hB.2.2.2 h0;have hl:=hB.1;have hcap:len'≤cap':=hB.2.1;have hm:cap'≤9223372036854775807:=hB.2.2.1;have hT:=hB.tail h0;have HB:=Hq hT;have hc0:=hcel 0 h0;simp only[Nat.add_zero]at hc0;clear hcel hT hB;by_cases hz:jv bs' 0=0
    · have hr:xc (bs'.drop 1)=xc bs:=by rw[←HD.out,zdc (by omega) hz]
      have HL:=Hq hl;have HR:=Hq hr;have hz2:(jv bs' 0==0)=true:=beq_iff_eq.2 hz;clear hl hr hconv hz;go_wp2;exact⟨⟨_,_,_,_,rfl,HB.out,HR.out⟩,by show len' - 1<len';omega⟩
    · have hz2:(jv bs' 0==0)=false:=beq_eq_false_iff_ne.2 hz;have hr:xc bs=bs':=by rw[←HD.out];exact kj (.inr hz)
      have HL:=Hq hl;have HR:=Hq hr;clear hl hr hz;go_wp2;go_ret;rw[HR.out];exact⟨rfl,rfl⟩
  · have h00:len'=0:=by omega
    subst h00;have hl:=hB.1;have hr:xc bs=bs':=by rw[←HD.out];exact kj (.inl hl)
    have HR:=Hq hr;clear hr hl hB h0;go_wp2;go_ret;rw[HR.out];exact⟨rfl,rfl⟩
set_option maxRecDepth 100000
set_option maxHeartbeats 400000
theorem zbu(A:Option Addr)(len cap:Nat)(bs:List UInt8)(w:World)(h:BytesAt w A len cap bs) :
 Calls Tryz.prog 152 #[.slice A len cap] w (RetQ (.string (bstr (xc bs))) w):=by
 have hl:=h.1;have hcap:len≤cap:=h.2.1;have hm:cap≤9223372036854775807:=h.2.2.1;by_cases h0:0<len
 · obtain⟨b,o,rfl,hcel⟩:=h.2.2.2 h0;have HL:=Hq hl;have HB:=Hq h;have HC:=Hq hcel;clear hcel hl h;go_enter Tryz.func152,Tryz.ntmps152;go_wp2
   go_loop [3] (fun v=>∃ k:Nat,k≤len∧v=.int .i64 k∧xc (bs.drop k)=xc bs) (fun v=>len - (intOf v).toNat)
   case atStart=>exact⟨0,Nat.zero_le _,rfl,rfl⟩
   case round =>
    obtain⟨k,hk,rfl,hd⟩:=hrel;have HD:=Hq hd;clear hd;by_cases hlt:k<len
    · have hc0:=HC.out k hlt;by_cases hz:jv bs k=0
      · have hz2:(jv bs k==0)=true:=beq_iff_eq.2 hz;have HZ:=Hq hz;clear hz;go_wp2;go_round;case rel=>exact⟨k+1,by omega,by go_num,by rw[←HD.out];exact(zo2 (by rw[HL.out];exact hlt) HZ.out).symm⟩
        case measure=>simp[intOf];omega
      · have hz2:(jv bs k==0)=false:=beq_eq_false_iff_ne.2 hz;have hr:bs.drop k=xc bs:=by rw[←HD.out];exact(kj (.inr (by rw[zh4];exact hz))).symm
        have hconv:=BytesAt.conv (HB.out.from k hk) 130 22 5 Tryz.underlying130 Tryz.underlying5 Tryz.underlying22;rw[hr]at hconv;have HR:=Hq hr;have hne:¬ cap=k:=by omega
        rw[if_neg hne]at hconv;clear hz hr;go_wp2;go_ret;exact⟨rfl,rfl⟩
    · obtain rfl:k=len:=by omega
      have hr:bs.drop k=xc bs:=by rw[←HD.out];exact(kj (.inl (by simp[HL.out]))).symm
      have hconv:=BytesAt.conv (HB.out.from k hk) 130 22 5 Tryz.underlying130 Tryz.underlying5 Tryz.underlying22;rw[hr]at hconv;clear hr;rw[Nat.sub_self]at hconv;by_cases hck:cap=k
      · rw[if_pos hck]at hconv;subst hck;rw[Nat.sub_self]at hconv;go_wp2;go_ret;exact⟨rfl,rfl⟩
      · rw[if_neg hck]at hconv;go_wp2;go_ret;exact⟨rfl,rfl⟩
 · have h00:len=0:=by omega
   subst h00;have hb:xc bs=bs:=kj (.inl hl);rw[hb];have hconv:=BytesAt.conv h 130 22 5 Tryz.underlying130 Tryz.underlying5 Tryz.underlying22;clear hb h hl h0;go_enter Tryz.func152,Tryz.ntmps152;go_wp2;refine wp_loop_rounds 1 ?_;rw[rounds_succ];go_wp2;go_ret;exact⟨rfl,rfl⟩
theorem yz(n:Nat)(hn:n<18446744073709551616)(w:World) :
 Calls Tryz.prog 66 #[.int .u64 n] w (Ret (.string (bstr (encN n))) w):=by
 have HN:=Hq hn;clear hn;go_enter Tryz.func66,Tryz.ntmps66;go_wp2;refine wp_loop_rounds 9 ?_;iterate 9 (rw[rounds_succ];go_wp2_with fail)
 refine(qw (some ⟨w.heap.size,0,none⟩) 8 8 (be8 n) _ (zv2 w n _)).mono ?_;rintro e w1 ⟨rfl,rfl⟩;rw[zor n HN.out];go_wp2;go_ret;exact⟨rfl,(blr).alloc nlr _⟩
theorem zdq(n:Nat)(hn:n<18446744073709551616)(w:World) :
 Calls Tryz.prog 98 #[.int .u64 n] w (Ret (.string (bstr (encN n))) w):=by
 have HN:=Hq hn;have hn2:(n:Int)≤18446744073709551615:=by omega
 clear hn;have hmk:∀ w,(Instr.makeSlice 130 (.int .i64 8) (.int .i64 8)).run Tryz.prog w=.ok (.slice (some ⟨w.heap.size,0,none⟩) 8 8) (w.alloc (.cells #[.int .u8 0,.int .u8 0,.int .u8 0,.int .u8 0,.int .u8 0,.int .u8 0,.int .u8 0,.int .u8 0] 5)):=fun _=>by kernel_rfl
 go_enter Tryz.func98,Tryz.ntmps98;go_wp2;refine wp_loop_rounds 9 ?_;iterate 9 (rw[rounds_succ];go_wp2_with fail)
 refine(zbu (some ⟨w.heap.size,0,none⟩) 8 8 (be8 n) _ (zxw w n _)).mono ?_;rintro e w1 ⟨rfl,rfl⟩;rw[zor n HN.out];go_wp2;go_ret;exact⟨rfl,(blr).alloc nlr _⟩
set_option maxHeartbeats 400000
theorem ziq(a:ByteArray)(h:a.size≤9223372036854775807)(w:World) :
 Calls Tryz.prog 196 #[.string a] w (RetQ (.bool (zc a)) w):=by
 by_cases h1:a.size≤128
 · by_cases h2:a.size=0
   · rw[zdg h2];go_enter Tryz.func196,Tryz.ntmps196;go_wp2;go_ret;exact⟨rfl,rfl⟩
   · have h3:0<a.size:=by omega
     have h4:((a.size:Int)==0)=false:=beq_eq_false_iff_ne.2 (by omega);rw[zcb h1 h3];go_enter Tryz.func196,Tryz.ntmps196;go_wp2;go_ret;exact⟨rfl,rfl⟩
 · rw[zcc h1];go_enter Tryz.func196,Tryz.ntmps196;go_wp2;go_ret;exact⟨rfl,rfl⟩
set_option maxRecDepth 100000
set_option maxHeartbeats 2000000
theorem x8{l:List It}{k:Nat}{y:It}(h:l[k]? =some y)(hv:Its.valid (l.take k)=true):Its.valid (l.take (k+1))=y.valid:=by
 rw[qu h,Its.valid_append,hv];simp[Its.valid]
theorem zbf{l:List It}{k:Nat}(h:Its.valid (l.take (k+1))=false):Its.valid l=false:=by
 have:=Its.valid_append (l.take (k+1)) (l.drop (k+1));rw[List.take_append_drop,h]at this;exact this
theorem zab(t:ByteArray):t.toList.isEmpty=(t.size==0):=by
 by_cases h:t.size=0
 · rw[zz h];simp[h]
 · rw[j4 (by omega)];simp[h]
theorem zga(N:Nat):∀(x:It) (v:Value) (w:World) (ok:Nat→Prop),x.nodes≤N→x.weight≤1000000000000→ItAt w ok v x→Calls Tryz.prog 110 #[v] w (Ret (.bool x.valid) w):=by
 induction N with
 | zero=>intro x v w ok h;have:=x.nodes_pos;omega
 | succ N ih =>
  intro x v w ok hN hM ⟨A,len,cap,hv,hs⟩;subst hv;have IH:=Hq ih;clear ih
  cases x with
  | mk q n t l =>
   simp only[It.kind,It.nat,It.text,It.list]at *;have hlen:=hs.1;have hcap:=hs.2.2.1;have hlc:=hs.2.1;have hnz:n.size≤9223372036854775807:=by simp only[It.weight]at hM;omega
   have hlle:((len:Int)==0)=l.isEmpty:=(by rw[←hlen];cases l<;>simp;omega);have hte:=zab t;have hne:=zab n;by_cases hq0:q=0
   · subst hq0;have hsp:It.valid (.mk 0 n t l)=(zc n&&((t.size==0)&&l.isEmpty)):=by simp[It.valid]
     rw[hsp];have HLEN:=Hq hlen;have HS:=Hq hs;clear hsp hlen hs hne hN hM
     cases hv:zc n<;>cases ht:(t.size==0)<;>cases hl:l.isEmpty<;>
     · rw[ht]at hte;rw[hl]at hlle;have HV:=Hq hv;clear hv ht hl;go_enter Tryz.func110,Tryz.ntmps110;go_wp2_with fail;refine(zh _ hnz _).mono ?_;rintro e w1 ⟨rfl,rfl⟩;rw[HV.out];go_wp2;go_ret;exact⟨rfl,(blr).alloc nlr _⟩
   · by_cases hq1:q=1
     · subst hq1;have hsp:It.valid (.mk 1 n t l)=((n.size==0)&&l.isEmpty):=by simp[It.valid]
       rw[hsp];have HLEN:=Hq hlen;have HS:=Hq hs;clear hsp hlen hs hte hN hM hq0
       cases ht:(n.size==0)<;>cases hl:l.isEmpty<;>
       · rw[ht]at hne;rw[hl]at hlle;clear ht hl;go_enter Tryz.func110,Tryz.ntmps110;go_wp2;go_ret;exact⟨rfl,(blr).alloc nlr _⟩
     · have e0:(q==0)=false:=beq_eq_false_iff_ne.2 hq0;have e1:(q==1)=false:=beq_eq_false_iff_ne.2 hq1;by_cases hq2:q=2
       · subst hq2;have hsp:It.valid (.mk 2 n t l)=(Its.valid l&&((n.size==0)&&(t.size==0))):=by simp[It.valid]
         rw[hsp];simp only[It.nodes,It.weight]at hN hM;have hs0:=hs.bound;have HN:=Hq hN;have HM:=Hq hM;clear hsp e0 e1 hq0 hq1 hN hM hlle hs;go_enter Tryz.func110,Tryz.ntmps110;go_wp2;go_loopw [39] (fun i wr=>∃ k:Nat,k≤len∧i=.int .i64 k∧Its.valid (l.take k)=true∧Below (w.heap.size+1) (w.alloc (.cells #[.int .i64 2,.string n,.string t,.slice A len cap] 118)) wr) (fun i _=>len - (intOf i).toNat);case atStart=>exact⟨0,Nat.zero_le _,rfl,rfl,Below.refl _ _⟩
         case round =>
          obtain⟨k,hk,rfl,hva,hB⟩:=hrel;have hbb:wr.heap[w.heap.size]? =some (.cells #[.int .i64 2,.string n,.string t,.slice A len cap] 118 (0,0)):=(by rw[hB.block _ (by omega)];exact heap_alloc_new _ _);obtain⟨b0,b1,b2,b3⟩:=zf hbb;have hBw:Below w.heap.size w wr:=((Below.refl w.heap.size w).alloc nlr _).trans (hB.mono (by omega));have hs1:=hs0.keep (fun b hb _=>hBw.block b hb.2);have hsz:w.heap.size+1≤wr.heap.size:=zn hbb;have HB:=Hq hB;have HBW:=Hq hBw;have HVA:=Hq hva;have HLEN:=Hq hlen;clear hbb hB hBw hva hlen;by_cases hlt:k<len
          · obtain⟨b,o,rfl⟩:=hs1.head (by omega);obtain⟨y,hy⟩:∃ y,l[k]? =some y:=⟨_,List.getElem?_eq_getElem (by rw[HLEN.out];exact hlt)⟩;obtain⟨A1,len1,cap1,c0,c1,c2,c3,hs2⟩:=(hs1.get? k hy).open;have hyN:y.nodes≤N:=by have:=Its.mem_nodes (List.mem_of_getElem? hy);have:=HN.out;omega
            have hyM:y.weight≤1000000000000:=by have:=Its.mem_weight (List.mem_of_getElem? hy);have:=HM.out;omega
            have HS2:=Hq hs2;have HY:=Hq hy;clear hs1 hs2 hs0 hy;go_wp2_with fail;refine(IH.out y _ _ _ hyN hyM ⟨A1,len1,cap1,rfl,HS2.out.below ((Below.refl wr.heap.size wr).alloc nlr _) nlr⟩).mono ?_;rintro e w2 ⟨rfl,hb2⟩;have HB2:=Hq hb2;clear hb2
            cases hyv:y.valid with
            | true =>
             have HYV:=Hq hyv;clear hyv;go_wp2;go_roundw;case rel=>exact⟨k+1,by omega,by go_num,by rw[x8 HY.out HVA.out];exact HYV.out,HB.out.trans (((Below.refl (w.heap.size+1) wr).alloc (by omega) _).trans (HB2.out.mono (by simp;omega)))⟩
             case measure=>simp[intOf];omega
            | false =>
             have hvl:Its.valid l=false:=zbf (k:=k) (by rw[x8 HY.out HVA.out];exact hyv);have HVL:=Hq hvl;clear hyv hvl;go_wp2;go_ret;exact⟨by rw[HVL.out];rfl,HBW.out.trans (((Below.refl w.heap.size wr).alloc (by omega) _).trans (HB2.out.mono (by simp;omega)))⟩
          · obtain rfl:k=len:=by omega
            have hvl:Its.valid l=true:=(by have:=HVA.out;rw[List.take_of_length_le (by have:=HLEN.out;omega)]at this;exact this);have HVL:=Hq hvl;clear hvl hs1 hs0
            cases ht:(t.size==0)<;>cases hn:(n.size==0)<;>
            · rw[ht]at hte;rw[hn]at hne;have HT:=Hq ht;have HN0:=Hq hn;clear ht hn;go_wp2;go_ret;exact⟨by rw[HVL.out,HT.out,HN0.out];rfl,HBW.out⟩
       · have hsp:It.valid (.mk q n t l)=false:=by simp[It.valid,hq0,hq1,hq2]
         rw[hsp];have e2:(q==2)=false:=beq_eq_false_iff_ne.2 hq2;clear hsp hq0 hq1 hq2 hlen hs hlle hte hne hN hM;go_enter Tryz.func110,Tryz.ntmps110;go_wp2;go_ret;exact⟨rfl,(blr).alloc nlr _⟩
theorem zfd(N:Nat):∀(x:It) (v:Value) (w:World) (ok:Nat→Prop),x.nodes≤N→x.weight≤1000000000000→ItAt w ok v x→Calls Tryz.prog 136 #[v] w (Ret (.bool x.valid) w):=by
 induction N with
 | zero=>intro x v w ok h;have:=x.nodes_pos;omega
 | succ N ih =>
  intro x v w ok hN hM ⟨A,len,cap,hv,hs⟩;subst hv;have IH:=Hq ih;clear ih
  cases x with
  | mk q n t l =>
   simp only[It.kind,It.nat,It.text,It.list]at *;have hlen:=hs.1;have hcap:=hs.2.2.1;have hlc:=hs.2.1;have hnz:n.size≤9223372036854775807:=by simp only[It.weight]at hM;omega
   have hlle:((len:Int)==0)=l.isEmpty:=(by rw[←hlen];cases l<;>simp;omega);have hte:=zab t;have hne:=zab n;by_cases hq0:q=0
   · subst hq0;have hsp:It.valid (.mk 0 n t l)=(zc n&&((t.size==0)&&l.isEmpty)):=by simp[It.valid]
     rw[hsp];have HLEN:=Hq hlen;have HS:=Hq hs;clear hsp hlen hs hne hN hM
     cases hv:zc n<;>cases ht:(t.size==0)<;>cases hl:l.isEmpty<;>
     · rw[ht]at hte;rw[hl]at hlle;have HV:=Hq hv;clear hv ht hl;go_enter Tryz.func136,Tryz.ntmps136;go_wp2_with fail;refine(ziq _ hnz _).mono ?_;rintro e w1 ⟨rfl,rfl⟩;rw[HV.out];go_wp2;go_ret;exact⟨rfl,(blr).alloc nlr _⟩
   · by_cases hq1:q=1
     · subst hq1;have hsp:It.valid (.mk 1 n t l)=((n.size==0)&&l.isEmpty):=by simp[It.valid]
       rw[hsp];have HLEN:=Hq hlen;have HS:=Hq hs;clear hsp hlen hs hte hN hM hq0
       cases ht:(n.size==0)<;>cases hl:l.isEmpty<;>
       · rw[ht]at hne;rw[hl]at hlle;clear ht hl;go_enter Tryz.func136,Tryz.ntmps136;go_wp2;go_ret;exact⟨rfl,(blr).alloc nlr _⟩
     · have e0:(q==0)=false:=beq_eq_false_iff_ne.2 hq0;have e1:(q==1)=false:=beq_eq_false_iff_ne.2 hq1;by_cases hq2:q=2
       · subst hq2;have hsp:It.valid (.mk 2 n t l)=(Its.valid l&&((n.size==0)&&(t.size==0))):=by simp[It.valid]
         rw[hsp];simp only[It.nodes,It.weight]at hN hM;have hs0:=hs.bound;have HN:=Hq hN;have HM:=Hq hM;clear hsp e0 e1 hq0 hq1 hN hM hlle hs;go_enter Tryz.func136,Tryz.ntmps136;go_wp2;go_loopw [3] (fun i wr=>∃ k:Nat,k≤len∧i=.int .i64 k∧Its.valid (l.take k)=true∧Below (w.heap.size+1) (w.alloc (.cells #[.int .i64 2,.string n,.string t,.slice A len cap] 118)) wr) (fun i _=>len - (intOf i).toNat);case atStart=>exact⟨0,Nat.zero_le _,rfl,rfl,Below.refl _ _⟩
         case round =>
          obtain⟨k,hk,rfl,hva,hB⟩:=hrel;have hbb:wr.heap[w.heap.size]? =some (.cells #[.int .i64 2,.string n,.string t,.slice A len cap] 118 (0,0)):=(by rw[hB.block _ (by omega)];exact heap_alloc_new _ _);obtain⟨b0,b1,b2,b3⟩:=zf hbb;have hBw:Below w.heap.size w wr:=((Below.refl w.heap.size w).alloc nlr _).trans (hB.mono (by omega));have hs1:=hs0.keep (fun b hb _=>hBw.block b hb.2);have hsz:w.heap.size+1≤wr.heap.size:=zn hbb;have HB:=Hq hB;have HBW:=Hq hBw;have HVA:=Hq hva;have HLEN:=Hq hlen;clear hbb hB hBw hva hlen;by_cases hlt:k<len
          · obtain⟨b,o,rfl⟩:=hs1.head (by omega);obtain⟨y,hy⟩:∃ y,l[k]? =some y:=⟨_,List.getElem?_eq_getElem (by rw[HLEN.out];exact hlt)⟩;obtain⟨A1,len1,cap1,c0,c1,c2,c3,hs2⟩:=(hs1.get? k hy).open;have hyN:y.nodes≤N:=by have:=Its.mem_nodes (List.mem_of_getElem? hy);have:=HN.out;omega
            have hyM:y.weight≤1000000000000:=by have:=Its.mem_weight (List.mem_of_getElem? hy);have:=HM.out;omega
            have HS2:=Hq hs2;have HY:=Hq hy;clear hs1 hs2 hs0 hy;go_wp2_with fail;refine(IH.out y _ _ _ hyN hyM ⟨A1,len1,cap1,rfl,HS2.out⟩).mono ?_;rintro e w2 ⟨rfl,hb2⟩;have HB2:=Hq hb2;clear hb2
            cases hyv:y.valid with
            | true =>
             have HYV:=Hq hyv;clear hyv;go_wp2;go_roundw;case rel=>exact⟨k+1,by omega,by go_num,by rw[x8 HY.out HVA.out];exact HYV.out,HB.out.trans (HB2.out.mono (by omega))⟩
             case measure=>simp[intOf];omega
            | false =>
             have hvl:Its.valid l=false:=zbf (k:=k) (by rw[x8 HY.out HVA.out];exact hyv);have HVL:=Hq hvl;clear hyv hvl;go_wp2;go_ret;exact⟨by rw[HVL.out];rfl,HBW.out.trans (HB2.out.mono (by omega))⟩
          · obtain rfl:k=len:=by omega
            have hvl:Its.valid l=true:=(by have:=HVA.out;rw[List.take_of_length_le (by have:=HLEN.out;omega)]at this;exact this);have HVL:=Hq hvl;clear hvl hs1 hs0
            cases ht:(t.size==0)<;>cases hn:(n.size==0)<;>
            · rw[ht]at hte;rw[hn]at hne;have HT:=Hq ht;have HN0:=Hq hn;clear ht hn;go_wp2;go_ret;exact⟨by rw[HVL.out,HT.out,HN0.out];rfl,HBW.out⟩
       · have hsp:It.valid (.mk q n t l)=false:=by simp[It.valid,hq0,hq1,hq2]
         rw[hsp];have e2:(q==2)=false:=beq_eq_false_iff_ne.2 hq2;clear hsp hq0 hq1 hq2 hlen hs hlle hte hne hN hM;go_enter Tryz.func136,Tryz.ntmps136;go_wp2;go_ret;exact⟨rfl,(blr).alloc nlr _⟩
theorem zbq{l:List It}{k:Nat}{y:It}(h:l[k]? =some y):Its.depth (l.take (k+1))=max (Its.depth (l.take k)) y.depth:=by
 rw[qu h,Its.depth_append];simp[Its.depth]
theorem zc5(l:List It)(k:Nat):Its.depth (l.take k)≤Its.depth l:=by
 have:=Its.depth_append (l.take k) (l.drop k);rw[List.take_append_drop]at this;omega
theorem zls(N:Nat):∀(x:It) (v:Value) (w:World) (ok:Nat→Prop),x.nodes≤N→x.weight≤1000000000000→ItAt w ok v x→Calls Tryz.prog 111 #[v] w (Ret (.int .i64 x.depth) w):=by
 induction N with
 | zero=>intro x v w ok h;have:=x.nodes_pos;omega
 | succ N ih =>
  intro x v w ok hN hM ⟨A,len,cap,hv,hs⟩;subst hv;have IH:=Hq ih;clear ih
  cases x with
  | mk q n t l =>
   simp only[It.kind,It.nat,It.text,It.list]at *;have hlen:=hs.1;have hcap:=hs.2.2.1;have hlc:=hs.2.1;by_cases hq2:q=2
   · subst hq2;have hsp:It.depth (.mk 2 n t l)=Its.depth l+1:=by simp[It.depth]
     rw[hsp];simp only[It.nodes,It.weight]at hN hM;have hs0:=hs.bound;have hd0:=Its.depth_le l;have hd1:=Its.nodes_le l;have hdb:Its.depth l≤1000000000000:=by omega
     have HN:=Hq hN;have HM:=Hq hM;clear hsp hN hM hs hd0 hd1;go_enter Tryz.func111,Tryz.ntmps111;go_wp2;go_loopw [3,12] (fun m i wr=>∃ k:Nat,k≤len∧i=.int .i64 k∧m=.int .i64 ((Its.depth (l.take k):Nat):Int)∧Below (w.heap.size+1) (w.alloc (.cells #[.int .i64 2,.string n,.string t,.slice A len cap] 118)) wr) (fun _ i _=>len - (intOf i).toNat);case atStart=>exact⟨0,Nat.zero_le _,rfl,rfl,Below.refl _ _⟩
     case round =>
      obtain⟨k,hk,rfl,rfl,hB⟩:=hrel;have hbb:wr.heap[w.heap.size]? =some (.cells #[.int .i64 2,.string n,.string t,.slice A len cap] 118 (0,0)):=(by rw[hB.block _ (by omega)];exact heap_alloc_new _ _);obtain⟨b0,b1,b2,b3⟩:=zf hbb;have hBw:Below w.heap.size w wr:=((Below.refl w.heap.size w).alloc nlr _).trans (hB.mono (by omega));have hs1:=hs0.keep (fun b hb _=>hBw.block b hb.2);have hsz:w.heap.size+1≤wr.heap.size:=zn hbb;have hdk:=zc5 l k;have HB:=Hq hB;have HBW:=Hq hBw;have HLEN:=Hq hlen;clear hbb hB hBw hlen;obtain⟨D,hD⟩:∃ D,D=Its.depth (l.take k):=⟨_,rfl⟩;rw[←hD]at hdk⊢;have HD:=Hq hD;clear hD;by_cases hlt:k<len
      · obtain⟨b,o,rfl⟩:=hs1.head (by omega);obtain⟨y,hy⟩:∃ y,l[k]? =some y:=⟨_,List.getElem?_eq_getElem (by rw[HLEN.out];exact hlt)⟩;obtain⟨A1,len1,cap1,c0,c1,c2,c3,hs2⟩:=(hs1.get? k hy).open;have hyN:y.nodes≤N:=by have:=Its.mem_nodes (List.mem_of_getElem? hy);have:=HN.out;omega
        have hyM:y.weight≤1000000000000:=by have:=Its.mem_weight (List.mem_of_getElem? hy);have:=HM.out;omega
        have HS2:=Hq hs2;have HY:=Hq hy;clear hs1 hs2 hs0 hy;go_wp2_with fail;refine(IH.out y _ _ _ hyN hyM ⟨A1,len1,cap1,rfl,HS2.out.below ((Below.refl wr.heap.size wr).alloc nlr _) nlr⟩).mono ?_;rintro e w2 ⟨rfl,hb2⟩;have HB2:=Hq hb2;clear hb2;go_wp2;exact⟨⟨k+1,by omega,by go_num,by rw[zbq HY.out,←HD.out];exact congrArg (Value.int .i64) (by omega),HB.out.trans (((Below.refl (w.heap.size+1) wr).alloc (by omega) _).trans (HB2.out.mono (by simp;omega)))⟩,by simp[intOf];omega⟩
      · obtain rfl:k=len:=by omega
        have hvl:D=Its.depth l:=(by have:=HD.out;rw[List.take_of_length_le (by have:=HLEN.out;omega)]at this;exact this);have HVL:=Hq hvl;clear hvl hs1 hs0;go_wp2;go_ret;exact⟨by rw[←HVL.out];rfl,HBW.out⟩
   · have hsp:It.depth (.mk q n t l)=0:=by simp[It.depth,hq2]
     rw[hsp];have e2:(q != 2)=true:=by rw[bne_iff_ne];exact hq2
     clear hsp hq2 hlen hs hN hM;go_enter Tryz.func111,Tryz.ntmps111;go_wp2;go_ret;exact⟨rfl,(blr).alloc nlr _⟩
theorem zkn(N:Nat):∀(x:It) (v:Value) (w:World) (ok:Nat→Prop),x.nodes≤N→x.weight≤1000000000000→ItAt w ok v x→Calls Tryz.prog 137 #[v] w (Ret (.int .i64 x.depth) w):=by
 induction N with
 | zero=>intro x v w ok h;have:=x.nodes_pos;omega
 | succ N ih =>
  intro x v w ok hN hM ⟨A,len,cap,hv,hs⟩;subst hv;have IH:=Hq ih;clear ih
  cases x with
  | mk q n t l =>
   simp only[It.kind,It.nat,It.text,It.list]at *;have hlen:=hs.1;have hcap:=hs.2.2.1;have hlc:=hs.2.1;by_cases hq2:q=2
   · subst hq2;have hsp:It.depth (.mk 2 n t l)=Its.depth l+1:=by simp[It.depth]
     rw[hsp];simp only[It.nodes,It.weight]at hN hM;have hs0:=hs.bound;have hd0:=Its.depth_le l;have hd1:=Its.nodes_le l;have hdb:Its.depth l≤1000000000000:=by omega
     have HN:=Hq hN;have HM:=Hq hM;clear hsp hN hM hs hd0 hd1;go_enter Tryz.func137,Tryz.ntmps137;go_wp2;go_loopw [3,4] (fun m i wr=>∃ k:Nat,k≤len∧i=.int .i64 k∧m=.int .i64 ((Its.depth (l.take k):Nat):Int)∧Below (w.heap.size+1) (w.alloc (.cells #[.int .i64 2,.string n,.string t,.slice A len cap] 118)) wr) (fun _ i _=>len - (intOf i).toNat);case atStart=>exact⟨0,Nat.zero_le _,rfl,rfl,Below.refl _ _⟩
     case round =>
      obtain⟨k,hk,rfl,rfl,hB⟩:=hrel;have hbb:wr.heap[w.heap.size]? =some (.cells #[.int .i64 2,.string n,.string t,.slice A len cap] 118 (0,0)):=(by rw[hB.block _ (by omega)];exact heap_alloc_new _ _);obtain⟨b0,b1,b2,b3⟩:=zf hbb;have hBw:Below w.heap.size w wr:=((Below.refl w.heap.size w).alloc nlr _).trans (hB.mono (by omega));have hs1:=hs0.keep (fun b hb _=>hBw.block b hb.2);have hsz:w.heap.size+1≤wr.heap.size:=zn hbb;have hdk:=zc5 l k;have HB:=Hq hB;have HBW:=Hq hBw;have HLEN:=Hq hlen;clear hbb hB hBw hlen;obtain⟨D,hD⟩:∃ D,D=Its.depth (l.take k):=⟨_,rfl⟩;rw[←hD]at hdk⊢;have HD:=Hq hD;clear hD;by_cases hlt:k<len
      · obtain⟨b,o,rfl⟩:=hs1.head (by omega);obtain⟨y,hy⟩:∃ y,l[k]? =some y:=⟨_,List.getElem?_eq_getElem (by rw[HLEN.out];exact hlt)⟩;obtain⟨A1,len1,cap1,c0,c1,c2,c3,hs2⟩:=(hs1.get? k hy).open;have hyN:y.nodes≤N:=by have:=Its.mem_nodes (List.mem_of_getElem? hy);have:=HN.out;omega
        have hyM:y.weight≤1000000000000:=by have:=Its.mem_weight (List.mem_of_getElem? hy);have:=HM.out;omega
        have HS2:=Hq hs2;have HY:=Hq hy;clear hs1 hs2 hs0 hy;go_wp2_with fail;refine(IH.out y _ _ _ hyN hyM ⟨A1,len1,cap1,rfl,HS2.out⟩).mono ?_;rintro e w2 ⟨rfl,hb2⟩;have HB2:=Hq hb2;clear hb2;go_wp2;exact⟨⟨k+1,by omega,by go_num,by rw[zbq HY.out,←HD.out];exact congrArg (Value.int .i64) (by omega),HB.out.trans (HB2.out.mono (by omega))⟩,by simp[intOf];omega⟩
      · obtain rfl:k=len:=by omega
        have hvl:D=Its.depth l:=(by have:=HD.out;rw[List.take_of_length_le (by have:=HLEN.out;omega)]at this;exact this);have HVL:=Hq hvl;clear hvl hs1 hs0;go_wp2;go_ret;exact⟨by rw[←HVL.out];rfl,HBW.out⟩
   · have hsp:It.depth (.mk q n t l)=0:=by simp[It.depth,hq2]
     rw[hsp];have e2:(q != 2)=true:=by rw[bne_iff_ne];exact hq2
     clear hsp hq2 hlen hs hN hM;go_enter Tryz.func137,Tryz.ntmps137;go_wp2;go_ret;exact⟨rfl,(blr).alloc nlr _⟩
set_option maxRecDepth 100000
set_option maxHeartbeats 2000000
theorem zzv(c:Nat)(h:c<256):bits BinOp.or IntKind.u8 (c:Int) 128=((c%128+128:Nat):Int):=by
 have : ∀ c:Fin 256,bits BinOp.or IntKind.u8 ((c.1:Nat):Int) 128=((c.1%128+128:Nat):Int):=by decide +kernel
 exact this ⟨c,h⟩
theorem zb1(m:Nat):bits BinOp.or IntKind.u8 ((m:Int)%256) 128=((m%128+128:Nat):Int):=by
 rw[show ((m:Int)%256)=((m%256:Nat):Int)from by omega,zzv _ (by omega)];omega
theorem jd{m:Nat}(h:m<256):(UInt8.ofNat m).toNat=m:=by
 rw[UInt8.toNat_ofNat'];omega
theorem xj(w:World)(cs:Array Value)(T:TypeId)(bs:List UInt8)(len cap:Nat)(hl:bs.length=len)(hc:len≤cap)(hm:cap≤9223372036854775807)
 (h:∀ k,k<len→cs[k]? =some (.int .u8 (jv bs k))):BytesAt (w.alloc (.cells cs T)) (some ⟨w.heap.size,0,none⟩) len cap bs:=
 ⟨hl,hc,hm,fun _=>⟨_,_,rfl,fun k hk=>by rw[Nat.zero_add,World.cell?_alloc_at (hn:=rfl)];exact h k hk⟩⟩
theorem zy2(n:Nat)(h:n<128):lenB n=[UInt8.ofNat (n)]:=by
 unfold lenB;rw[lenF,if_pos (by omega)]
theorem zum(w:World)(n:Nat)(h:n<128)(T:TypeId):BytesAt (w.alloc (.cells #[.int .u8 ((n:Int)),.int .u8 0,.int .u8 0,.int .u8 0,.int .u8 0,.int .u8 0,.int .u8 0,.int .u8 0,.int .u8 0,.int .u8 0] T)) (some ⟨w.heap.size,0,none⟩) 1 10 (lenB n):=by
 rw[zy2 n h];refine xj w _ T _ _ _ rfl (by omega) (by omega) fun k hk=>?_
 match k,hk with
 | 0,_=>exact congrArg (fun x=>some (Value.int .u8 x)) (show ((n:Nat):Int)=_ from congrArg Int.ofNat (jd (by omega)).symm)
theorem zy1(n:Nat)(hl:128≤n)(h:n<16384):lenB n=[UInt8.ofNat (n%128+128),UInt8.ofNat (n / 128)]:=by
 unfold lenB;rw[lenF,if_neg (by omega)];rw[lenF,if_pos (by omega)]
theorem zul(w:World)(n:Nat)(hl:128≤n)(h:n<16384)(T:TypeId):BytesAt (w.alloc (.cells #[.int .u8 (bits BinOp.or IntKind.u8 ((n:Int)%256) 128),.int .u8 ((n:Int) / 128),.int .u8 0,.int .u8 0,.int .u8 0,.int .u8 0,.int .u8 0,.int .u8 0,.int .u8 0,.int .u8 0] T)) (some ⟨w.heap.size,0,none⟩) 2 10 (lenB n):=by
 rw[zy1 n hl h];refine xj w _ T _ _ _ rfl (by omega) (by omega) fun k hk=>?_
 match k,hk with
 | 0,_=>exact congrArg (fun x=>some (Value.int .u8 x)) ((zb1 (n)).trans (congrArg Int.ofNat (jd (by omega)).symm))
 | 1,_=>exact congrArg (fun x=>some (Value.int .u8 x)) (show ((n / 128:Nat):Int)=_ from congrArg Int.ofNat (jd (by omega)).symm)
theorem zy0(n:Nat)(hl:16384≤n)(h:n<2097152):lenB n=[UInt8.ofNat (n%128+128),UInt8.ofNat (n / 128%128+128),UInt8.ofNat (n / 128 / 128)]:=by
 unfold lenB;rw[lenF,if_neg (by omega)];rw[lenF,if_neg (by omega)];rw[lenF,if_pos (by omega)]
theorem zuk(w:World)(n:Nat)(hl:16384≤n)(h:n<2097152)(T:TypeId):BytesAt (w.alloc (.cells #[.int .u8 (bits BinOp.or IntKind.u8 ((n:Int)%256) 128),.int .u8 (bits BinOp.or IntKind.u8 ((n:Int) / 128%256) 128),.int .u8 ((n:Int) / 128 / 128),.int .u8 0,.int .u8 0,.int .u8 0,.int .u8 0,.int .u8 0,.int .u8 0,.int .u8 0] T)) (some ⟨w.heap.size,0,none⟩) 3 10 (lenB n):=by
 rw[zy0 n hl h];refine xj w _ T _ _ _ rfl (by omega) (by omega) fun k hk=>?_
 match k,hk with
 | 0,_=>exact congrArg (fun x=>some (Value.int .u8 x)) ((zb1 (n)).trans (congrArg Int.ofNat (jd (by omega)).symm))
 | 1,_=>exact congrArg (fun x=>some (Value.int .u8 x)) ((zb1 (n / 128)).trans (congrArg Int.ofNat (jd (by omega)).symm))
 | 2,_=>exact congrArg (fun x=>some (Value.int .u8 x)) (show ((n / 128 / 128:Nat):Int)=_ from congrArg Int.ofNat (jd (by omega)).symm)
theorem zyz(n:Nat)(hl:2097152≤n)(h:n<268435456):lenB n=[UInt8.ofNat (n%128+128),UInt8.ofNat (n / 128%128+128),UInt8.ofNat (n / 128 / 128%128+128),UInt8.ofNat (n / 128 / 128 / 128)]:=by
 unfold lenB;rw[lenF,if_neg (by omega)];rw[lenF,if_neg (by omega)];rw[lenF,if_neg (by omega)];rw[lenF,if_pos (by omega)]
theorem zuj(w:World)(n:Nat)(hl:2097152≤n)(h:n<268435456)(T:TypeId):BytesAt (w.alloc (.cells #[.int .u8 (bits BinOp.or IntKind.u8 ((n:Int)%256) 128),.int .u8 (bits BinOp.or IntKind.u8 ((n:Int) / 128%256) 128),.int .u8 (bits BinOp.or IntKind.u8 ((n:Int) / 128 / 128%256) 128),.int .u8 ((n:Int) / 128 / 128 / 128),.int .u8 0,.int .u8 0,.int .u8 0,.int .u8 0,.int .u8 0,.int .u8 0] T)) (some ⟨w.heap.size,0,none⟩) 4 10 (lenB n):=by
 rw[zyz n hl h];refine xj w _ T _ _ _ rfl (by omega) (by omega) fun k hk=>?_
 match k,hk with
 | 0,_=>exact congrArg (fun x=>some (Value.int .u8 x)) ((zb1 (n)).trans (congrArg Int.ofNat (jd (by omega)).symm))
 | 1,_=>exact congrArg (fun x=>some (Value.int .u8 x)) ((zb1 (n / 128)).trans (congrArg Int.ofNat (jd (by omega)).symm))
 | 2,_=>exact congrArg (fun x=>some (Value.int .u8 x)) ((zb1 (n / 128 / 128)).trans (congrArg Int.ofNat (jd (by omega)).symm))
 | 3,_=>exact congrArg (fun x=>some (Value.int .u8 x)) (show ((n / 128 / 128 / 128:Nat):Int)=_ from congrArg Int.ofNat (jd (by omega)).symm)
theorem zyy(n:Nat)(hl:268435456≤n)(h:n<34359738368):lenB n=[UInt8.ofNat (n%128+128),UInt8.ofNat (n / 128%128+128),UInt8.ofNat (n / 128 / 128%128+128),UInt8.ofNat (n / 128 / 128 / 128%128+128),UInt8.ofNat (n / 128 / 128 / 128 / 128)]:=by
 unfold lenB;rw[lenF,if_neg (by omega)];rw[lenF,if_neg (by omega)];rw[lenF,if_neg (by omega)];rw[lenF,if_neg (by omega)];rw[lenF,if_pos (by omega)]
theorem zui(w:World)(n:Nat)(hl:268435456≤n)(h:n<34359738368)(T:TypeId):BytesAt (w.alloc (.cells #[.int .u8 (bits BinOp.or IntKind.u8 ((n:Int)%256) 128),.int .u8 (bits BinOp.or IntKind.u8 ((n:Int) / 128%256) 128),.int .u8 (bits BinOp.or IntKind.u8 ((n:Int) / 128 / 128%256) 128),.int .u8 (bits BinOp.or IntKind.u8 ((n:Int) / 128 / 128 / 128%256) 128),.int .u8 ((n:Int) / 128 / 128 / 128 / 128),.int .u8 0,.int .u8 0,.int .u8 0,.int .u8 0,.int .u8 0] T)) (some ⟨w.heap.size,0,none⟩) 5 10 (lenB n):=by
 rw[zyy n hl h];refine xj w _ T _ _ _ rfl (by omega) (by omega) fun k hk=>?_
 match k,hk with
 | 0,_=>exact congrArg (fun x=>some (Value.int .u8 x)) ((zb1 (n)).trans (congrArg Int.ofNat (jd (by omega)).symm))
 | 1,_=>exact congrArg (fun x=>some (Value.int .u8 x)) ((zb1 (n / 128)).trans (congrArg Int.ofNat (jd (by omega)).symm))
 | 2,_=>exact congrArg (fun x=>some (Value.int .u8 x)) ((zb1 (n / 128 / 128)).trans (congrArg Int.ofNat (jd (by omega)).symm))
 | 3,_=>exact congrArg (fun x=>some (Value.int .u8 x)) ((zb1 (n / 128 / 128 / 128)).trans (congrArg Int.ofNat (jd (by omega)).symm))
 | 4,_=>exact congrArg (fun x=>some (Value.int .u8 x)) (show ((n / 128 / 128 / 128 / 128:Nat):Int)=_ from congrArg Int.ofNat (jd (by omega)).symm)
theorem qo(n:Nat)(w:World)(h:n<34359738368):Calls Tryz.prog 161 #[.int .i64 n] w (Ret (.string (bstr (lenB n))) w):=by
 by_cases h0:n<128
 · have hconv:=BytesAt.conv (zum w n h0 236) 130 9 5 Tryz.underlying130 Tryz.underlying5 Tryz.underlying9;go_enter Tryz.func161,Tryz.ntmps161;go_wp2;refine wp_loop_rounds 1 ?_;iterate 1 (rw[rounds_succ];go_wp2_with fail)
   go_ret;exact⟨rfl,(blr).alloc nlr _⟩
 · skip;by_cases h1:n<16384
   · have hconv:=BytesAt.conv (zul w n (by omega) h1 236) 130 9 5 Tryz.underlying130 Tryz.underlying5 Tryz.underlying9;go_enter Tryz.func161,Tryz.ntmps161;go_wp2;refine wp_loop_rounds 2 ?_;iterate 2 (rw[rounds_succ];go_wp2_with fail)
     go_ret;exact⟨rfl,(blr).alloc nlr _⟩
   · skip;by_cases h2:n<2097152
     · have hconv:=BytesAt.conv (zuk w n (by omega) h2 236) 130 9 5 Tryz.underlying130 Tryz.underlying5 Tryz.underlying9;go_enter Tryz.func161,Tryz.ntmps161;go_wp2;refine wp_loop_rounds 3 ?_;iterate 3 (rw[rounds_succ];go_wp2_with fail)
       go_ret;exact⟨rfl,(blr).alloc nlr _⟩
     · skip;by_cases h3:n<268435456
       · have hconv:=BytesAt.conv (zuj w n (by omega) h3 236) 130 9 5 Tryz.underlying130 Tryz.underlying5 Tryz.underlying9;go_enter Tryz.func161,Tryz.ntmps161;go_wp2;refine wp_loop_rounds 4 ?_;iterate 4 (rw[rounds_succ];go_wp2_with fail)
         go_ret;exact⟨rfl,(blr).alloc nlr _⟩
       · skip;have hconv:=BytesAt.conv (zui w n (by omega) h 236) 130 9 5 Tryz.underlying130 Tryz.underlying5 Tryz.underlying9;go_enter Tryz.func161,Tryz.ntmps161;go_wp2;refine wp_loop_rounds 5 ?_;iterate 5 (rw[rounds_succ];go_wp2_with fail)
         go_ret;exact⟨rfl,(blr).alloc nlr _⟩
end Go.Proofs.YtppbcopnfankcaaGreat
