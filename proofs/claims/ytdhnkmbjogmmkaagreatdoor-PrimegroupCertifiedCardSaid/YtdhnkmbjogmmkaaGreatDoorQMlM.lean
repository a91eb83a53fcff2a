import Derived.Test.YtdhnkmbjogmmkaaGreatDoorQCeF
set_option linter.unusedVariables false
set_option linter.unusedSimpArgs false
namespace Go.Proofs.YtdhnkmbjogmmkaaGreatDoor
set_option maxRecDepth 100000
set_option maxHeartbeats 2000000
open Go.RowKit
def TwB(w:World)(B n p:Nat):Prop:=∃ cur:Array Value,w.heap[B]? =some (.cells cur 5 (0,0))∧cur.size=n∧cur[0]? =some (.int .u8 (p:Int))∧∀ j,0<j→j<n→cur[j]? =some (.int .u8 0)
theorem TwB.cell{w:World}{B n p:Nat}(h:TwB w B n p):w.cell? ⟨B,0,none⟩=some (.int .u8 (p:Int)):=by
 obtain⟨cur,h1,h2,h3,h4⟩:=h;rw[Lib.cell_of_heap h1];exact h3
theorem TwB.free{w:World}{B n p:Nat}(h:TwB w B n p)(k:Nat):w.frozen? ⟨B,k,none⟩=false:=by
 obtain⟨cur,h1,_⟩:=h;exact Lib.frozen_of_heap h1 k
theorem TwB.set{w:World}{B n p:Nat}(h:TwB w B n p)(q:Nat):TwB (w.setCell ⟨B,0,none⟩ (.int .u8 (q:Int))) B n q:=by
 obtain⟨cur,h1,h2,h3,h4⟩:=h;have hn:0<cur.size:=(Array.getElem?_eq_some_iff.1 h3).1;refine⟨_,block_setCell h1 _,by rw[Array.size_setIfInBounds,h2],?_,fun j h0 hj=>?_⟩
 · rw[Array.getElem?_setIfInBounds,if_pos rfl,if_pos hn]
 · rw[Array.getElem?_setIfInBounds,if_neg (by omega)];exact h4 j h0 hj
theorem zb_get{n j:Nat}(h:j<n):(zb n)[j]? =some (.int .u8 0):=by
 unfold zb;rw[←Array.getElem?_toList,toList_madeCells_one,List.getElem?_replicate,if_pos h]
theorem u8n{p:Nat}(hp:p<256):(UInt8.ofNat p).toNat=p:=by
 have:=ofNat_mod_toNat p;rwa[Nat.mod_eq_of_lt hp]at this
theorem TwB.start{w:World}{n:Nat}(h:0<n):TwB (w.alloc (.cells (zb n) 5)) w.heap.size n 0:=⟨_,heap_alloc_new _ _,zb_size n,zb_get h,fun j _ hj=>zb_get hj⟩
theorem TwB.start1{w:World}{n:Nat}(h:0<n):TwB (w.alloc (.cells ((zb n).setIfInBounds 0 (.int .u8 1)) 5)) w.heap.size n 1:=by
 refine⟨_,heap_alloc_new _ _,by rw[Array.size_setIfInBounds,zb_size],?_,fun j h0 hj=>?_⟩
 · rw[Array.getElem?_setIfInBounds,if_pos rfl,if_pos (by rw[zb_size];exact h)];rfl
 · rw[Array.getElem?_setIfInBounds,if_neg (by omega)];exact zb_get hj
def twL(n p:Nat):List UInt8:=UInt8.ofNat p::List.replicate (n - 1) 0
theorem bnat_zeros:∀ m,bnat (List.replicate m 0)=0
 | 0=>rfl
 | m+1=>by
  rw[List.replicate_succ,bnat_cons,bnat_zeros m];show 0 * _+0=0;omega
theorem twL_num{n p:Nat}(hn:0<n)(hp:p<256):bnat (twL n p)=p * 256 ^ (n - 1):=by
 unfold twL;rw[bnat_cons,bnat_zeros,List.length_replicate,Nat.add_zero];congr 1;exact u8n hp
theorem twL_nS{n p:Nat}(hn:0<n)(hp:p<256)(h0:0<p):bstr (twL n p)=nS (p * 256 ^ (n - 1)):=by
 have hc:canon (twL n p):=(by unfold twL;refine canon_cons.2 fun h=>?_;have:=congrArg UInt8.toNat h;rw[u8n hp]at this;have e:(0:UInt8).toNat=0:=rfl;omega);unfold nS;rw[←twL_num hn hp,encN_bnat hc]
theorem TwB.bytes{w:World}{B n p:Nat}(h:TwB w B n p)(hn:0<n)(hn2:n≤9223372036854775807)(hp:p<256):BytesAt w (some ⟨B,0,none⟩) n n (twL n p):=by
 obtain⟨cur,h1,h2,h3,h4⟩:=h;refine⟨by unfold twL;rw[List.length_cons,List.length_replicate];omega,Nat.le_refl _,hn2,fun _=>⟨B,0,rfl,fun k hk=>?_⟩⟩;rw[Nat.zero_add,Lib.cell_of_heap h1];show cur[k]? =_;rcases Nat.eq_zero_or_pos k with h0 | h0
 · subst h0;rw[h3];unfold byteI twL;rw[List.getD_eq_getElem?_getD,List.getElem?_cons_zero,Option.getD_some,u8n hp]
 · rw[h4 k h0 hk];unfold byteI twL;obtain⟨j,rfl⟩:∃ j,k=j+1:=⟨k - 1,by omega⟩;rw[List.getD_eq_getElem?_getD,List.getElem?_cons_succ,List.getElem?_replicate,if_pos (by omega),Option.getD_some];rfl
theorem two_pow_parts(i:Nat):2 ^ (i%8) * 256 ^ (i / 8)=2 ^ i:=by
 rw[show (256:Nat)=2 ^ 8 from rfl,←Nat.pow_mul,←Nat.pow_add,Nat.add_comm,Nat.div_add_mod]
theorem r01_twos(i:Nat)(hi:i≤10000)(w:World):Calls Tryz.prog 126 #[.int .i64 i] w (Ret (.string (nS (2 ^ i))) w):=by
 have HP:=Hq (two_pow_parts i);obtain⟨q,hq⟩:∃ q,i / 8=q:=⟨_,rfl⟩;obtain⟨r,hr⟩:∃ r,i%8=r:=⟨_,rfl⟩;have hr8:r<8:=by omega
 rw[hq,hr]at HP;obtain⟨n,hn⟩:∃ n,q+1=n:=⟨_,rfl⟩;have hmk:=fun(w:World)=>make_bytes n (by omega) w;have e1:(i:Int) / 8+1=(n:Int):=by omega
 have e2:(i:Int)%8=(r:Int):=by omega
 have e3:(0:Int)≤i:=by omega
 have h0n:0<n:=by omega
 have h0n':(0:Int)<n:=by omega
 have HR:=Hq hr8;have HQ:=Hq (show n - 1=q from by omega);have HN:=Hq (show n≤9223372036854775807 from by omega);clear hq hr hr8 hn;have hz0:(w.alloc (.cells (zb n) 5)).cell? ⟨w.heap.size,0,none⟩=some (.int .u8 0):=(TwB.start h0n).cell;have hzf:(w.alloc (.cells (zb n) 5)).frozen? ⟨w.heap.size,0,none⟩=false:=(TwB.start h0n).free 0;go_enter Tryz.func126,Tryz.ntmps126;go_wp2;clear hmk hz0 hzf;go_loopw [4] (fun k wr=>∃ K:Nat,K≤r∧k=.int .i64 K∧TwB wr w.heap.size n (2 ^ K)∧Below w.heap.size w wr) (fun k _=>r - (intOf k).toNat);case atStart=>exact⟨0,Nat.zero_le _,rfl,TwB.start1 h0n,(blr).alloc nlr _⟩
 case round =>
  obtain⟨K,hK,rfl,ho,hb⟩:=hrel;have HO:=Hq ho;have HB:=Hq hb;have hcell:=ho.cell;have hfree:=ho.free 0;clear ho hb;by_cases hlt:K<r
  · have hp:2 ^ K≤64:=Nat.pow_le_pow_right (n:=2) (j:=6) (by decide) (by have:=HR.out;omega);have HPS:=Hq (Nat.pow_succ 2 K);obtain⟨p,hpe⟩:∃ p,2 ^ K=p:=⟨_,rfl⟩;rw[hpe]at HO hcell hp HPS;have hm:(p:Int) * 2%256=((p * 2:Nat):Int):=by omega
    clear hpe;go_wp2;refine⟨⟨K+1,by omega,by go_num,?_,HB.out.setCell (p:=⟨w.heap.size,0,none⟩) nlr _⟩,by simp[intOf];omega⟩;have h1:=HO.out.set (p * 2);rw[Int.natCast_mul]at h1;rw[HPS.out];exact h1
  · obtain rfl:K=r:=by omega
    have hp:2 ^ K≤128:=Nat.pow_le_pow_right (n:=2) (j:=7) (by decide) (by have:=HR.out;omega);have hconv:=(HO.out.bytes h0n HN.out (by omega)).conv 97 22 5 Tryz.underlying97 Tryz.underlying5 Tryz.underlying22;have HR2:=Hq (show bstr (twL n (2 ^ K))=nS (2 ^ i)from by rw[twL_nS h0n (by omega) (Nat.two_pow_pos K),HQ.out,HP.out]);obtain⟨L,hL⟩:∃ L,bstr (twL n (2 ^ K))=L:=⟨_,rfl⟩;rw[hL]at hconv HR2;clear hL hp hcell hfree;go_wp2;go_ret;exact⟨by rw[HR2.out];rfl,HB.out⟩
def RetSq(a:Nat)(w:World)(e:Ending)(w':World):Prop:=∃ x:Nat,e=.returned (.tuple #[.string (nS x),.int .i64 0])∧RtW a x 0∧Below w.heap.size w w'
theorem cmpI_nonpos{a b:Nat}:cmpI a b≤0↔a≤b:=by
 unfold cmpI;split
 · omega
 · split<;>omega
theorem pow_size{i:Nat}(hi:i≤64):(nS (2 ^ i)).size≤9:=by
 refine nS_size_le.2 (Nat.lt_of_le_of_lt (Nat.pow_le_pow_right (n:=2) (j:=64) (by decide) hi) ?_);decide
theorem RtW.le{a x k:Nat}(h:RtW a x k):x≤a:=by
 rcases Nat.eq_zero_or_pos x with z | z
 · omega
 · exact Nat.le_trans (Nat.le_mul_of_pos_left x z) h.1
theorem r01_Sqrt(a:Nat)(ha16:a<256 ^ 16)(w:World):Calls Tryz.prog 104 #[.string (nS a)] w (RetSq a w):=by
 have hsz:=nS_size_le.2 ha16;have ha:a<256 ^ 128:=Nat.lt_of_lt_of_le ha16 (by decide);have HV:=Hq (r01_Valid (nS a) (by omega));rw[nvalid_nS.2 ha]at HV;have HBI:=Hq (r01_bits a (by omega));have HBL:=Hq (blen_lt a);have hbl:blen a≤128:=blen_le8 ha16;have HA:=Hq ha16;have HORD:=Hq (fun y (hy:(nS (y * y)).size≤9223372036854775807) w=>show Calls _ _ _ w (Ret (.int .i64 (cmpI (y * y) a)) w)from by
  have:=r01_Order (nS (y * y)) (nS a) hy (by omega) w
  rwa[ordB_nS]at this)
 obtain⟨s,hs⟩:∃ s,nS a=s:=⟨_,rfl⟩;rw[hs]at HV HBI HORD;rw[hs];obtain⟨B,hB⟩:∃ B,blen a=B:=⟨_,rfl⟩;rw[hB]at HBI HBL hbl;obtain⟨I,hI⟩:∃ I,(B+1) / 2=I:=⟨_,rfl⟩;have hq:((B:Int)+1) / 2=(I:Int):=by omega
 have HII:=Hq (show I≤64∧B≤2 * (I+1)from by omega);have hI5:I≤64:=by omega
 have HQ:=Hq hq;clear hs hsz ha ha16 hB hI hq;go_enter Tryz.func104,Tryz.ntmps104;go_wp2_with fail;refine(HV.out _).mono ?_;rintro e w1 ⟨rfl,rfl⟩;go_wp2_with fail;refine(HBI.out _).mono ?_;rintro e w1 ⟨rfl,rfl⟩;go_wp2;go_loopw [4,5] (fun x i wr=>∃(X K:Nat),x=.string (nS X)∧i=.int .i64 ((K:Int) - 1)∧K≤I+1∧RtW a X K∧Below w.heap.size w wr) (fun _ i _=>(intOf i+1).toNat);case atStart=>exact⟨0,I+1,rfl,by rw[HQ.out];go_num,Nat.le_refl _,RtW.start HBL.out HII.out.2,Below.refl _ _⟩
 case round =>
  obtain⟨X,K,rfl,rfl,hK,hx,hb⟩:=hrel;have HX:=Hq hx;have HB:=Hq hb;clear hx hb;by_cases hlt:0<K
  · obtain⟨k,rfl⟩:∃ k,K=k+1:=⟨K - 1,by omega⟩;rw[show ((k+1:Nat):Int) - 1=(k:Int)from by omega];have he0:(0:Int)≤(k:Int):=by omega
    have hk5:k≤64:=by omega
    have hX:=Nat.lt_of_le_of_lt HX.out.le HA.out;have HT:=Hq (r01_twos k (by omega));have hs1:=nS_size_le.2 hX;have hs2:=pow_size hk5;have HP:=Hq (r01_Plus X (2 ^ k) (by omega) (by omega));have hy:X+2 ^ k<256 ^ 17:=(by have h2:=nS_size_le.1 hs2;exact Nat.lt_of_lt_of_le (Nat.add_lt_add hX h2) (by decide));have hs3:=nS_size_le.2 hy;have HM:=Hq (r01_Times (X+2 ^ k) (X+2 ^ k) (by omega) (by omega));have hyy:(X+2 ^ k) * (X+2 ^ k)<256 ^ 34:=Nat.lt_of_lt_of_le (Nat.mul_lt_mul'' hy hy) (by decide);have hs4:=nS_size_le.2 hyy;have HO:=Hq (HORD.out (X+2 ^ k) (by omega));have HC:=Hq (cmpI_nonpos (a:=(X+2 ^ k) * (X+2 ^ k)) (b:=a));obtain⟨Y,hY⟩:∃ Y,X+2 ^ k=Y:=⟨_,rfl⟩;rw[hY]at HP HM HO HC;obtain⟨c,hc⟩:∃ c,cmpI (Y * Y) a=c:=⟨_,rfl⟩;rw[hc]at HO HC;have HY:=Hq hY;clear hs1 hs2 hs3 hs4 hyy hy hX hk5 hY hc;go_wp2_with fail;refine(HT.out _).mono ?_;rintro e w2 ⟨rfl,hb⟩;have HB2:=Hq (HB.out.trans (hb.mono HB.out.size));clear hb;go_wp2_with fail;refine(HP.out _).mono ?_;rintro e w3 ⟨rfl,hb⟩;have HB3:=Hq (HB2.out.trans (hb.mono HB2.out.size));clear hb;go_wp2_with fail;refine(HM.out _).mono ?_;rintro e w4 ⟨rfl,hb⟩;have HB4:=Hq (HB3.out.trans (hb.mono HB3.out.size));clear hb;go_wp2_with fail;refine(HO.out _).mono ?_;rintro e w5 ⟨rfl,hb⟩;have HB5:=Hq (HB4.out.trans (hb.mono HB4.out.size));clear hb;by_cases h0:c≤0
    · have hd:decide (c≤0)=true:=decide_eq_true h0;have HN:=Hq (HX.out.yes (by rw[HY.out];exact HC.out.1 h0));rw[HY.out]at HN;clear h0;go_wp2;go_roundw;case rel=>exact⟨Y,k,rfl,by go_num,by omega,HN.out,HB5.out⟩
      case measure=>simp[intOf]<;>omega
    · have hd:decide (c≤0)=false:=decide_eq_false h0;have HN:=Hq (HX.out.no (by rw[HY.out];exact fun h=>h0 (HC.out.2 h)));clear h0;go_wp2;go_roundw;case rel=>exact⟨X,k,rfl,by go_num,by omega,HN.out,HB5.out⟩
      case measure=>simp[intOf]<;>omega
  · obtain rfl:K=0:=by omega
    rw[show ((0:Nat):Int) - 1 = -1 from rfl];go_wp2;go_ret2;exact⟨X,rfl,HX.out,HB.out⟩
set_option maxRecDepth 100000
set_option maxHeartbeats 2000000
theorem r01_CmpC(x y:Nat)(hx:x<256 ^ 128)(hy:y<256 ^ 128)(w:World):Calls Tryz.prog 97 #[.string (nS x),.string (nS y)] w (Ret (.int .i64 (cmpI x y)) w):=by
 have HV1:=Hq (r01_Valid (nS x) (by have:=nS_size_le.2 hx;omega));have HV2:=Hq (r01_Valid (nS y) (by have:=nS_size_le.2 hy;omega));rw[nvalid_nS.2 hx]at HV1;rw[nvalid_nS.2 hy]at HV2;have HO:=Hq (r01_Order (nS x) (nS y) (by have:=nS_size_le.2 hx;omega) (by have:=nS_size_le.2 hy;omega));rw[ordB_nS]at HO;obtain⟨s,hs⟩:∃ s,nS x=s:=⟨_,rfl⟩;obtain⟨t,ht⟩:∃ t,nS y=t:=⟨_,rfl⟩;rw[hs]at HV1 HO⊢;rw[ht]at HV2 HO⊢;clear hs ht hx hy;go_enter Tryz.func97,Tryz.ntmps97;go_wp2_with fail;refine(HV1.out _).mono ?_;rintro e w1 ⟨rfl,rfl⟩;go_wp2_with fail;refine(HV2.out _).mono ?_;rintro e w1 ⟨rfl,rfl⟩;go_wp2_with fail;refine(HO.out _).mono ?_;rintro e w2 ⟨rfl,hb⟩;have HB:=Hq hb;clear hb;go_wp2;go_ret;exact⟨rfl,HB.out⟩
theorem r07_less(x y:Nat)(hx:x<256 ^ 128)(hy:y<256 ^ 128)(w:World):Calls Tryz.prog 58 #[.string (nS x),.string (nS y)] w (Ret (.bool (decide (x<y))) w):=by
 have HC:=Hq (r01_CmpC x y hx hy);have HP:=Hq (show decide (cmpI x y<0)=decide (x<y)from decide_eq_decide.2 cmpI_neg');obtain⟨c,hc⟩:∃ c,cmpI x y=c:=⟨_,rfl⟩;rw[hc]at HC HP;rw[←HP.out];clear hc hx hy;go_enter Tryz.func58,Tryz.ntmps58;go_wp2_with fail;refine(HC.out _).mono ?_;rintro e w1 ⟨rfl,hb⟩;have HB:=Hq hb;clear hb;go_wp2;go_ret;exact⟨rfl,HB.out⟩
theorem r01_GcdC(x y:Nat)(hx:x<256 ^ 128)(hy:y<256 ^ 128)(w:World):Calls Tryz.prog 106 #[.string (nS x),.string (nS y)] w (Ret (.tuple #[.string (nS (Nat.gcd x y)),.int .i64 0]) w):=by
 have HV1:=Hq (r01_Valid (nS x) (by have:=nS_size_le.2 hx;omega));have HV2:=Hq (r01_Valid (nS y) (by have:=nS_size_le.2 hy;omega));rw[nvalid_nS.2 hx]at HV1;rw[nvalid_nS.2 hy]at HV2;have HC:=Hq (r01_Common x y hx hy);clear hx hy;go_enter Tryz.func106,Tryz.ntmps106;go_wp2_with fail;refine(HV1.out _).mono ?_;rintro e w1 ⟨rfl,rfl⟩;go_wp2_with fail;refine(HV2.out _).mono ?_;rintro e w1 ⟨rfl,rfl⟩;go_wp2_with fail;refine(HC.out _).mono ?_;rintro e w2 ⟨rfl,hb⟩;have HB:=Hq hb;clear hb;go_wp2;go_ret2;exact⟨rfl,HB.out⟩
theorem r07_find(l:List ByteArray)(A:Option Addr)(len cap:Nat)(x:ByteArray)(w:World)(hs:SlN w A len cap l):Calls Tryz.prog 101 #[.slice A len cap,.string x] w (RetKP (l.any (fun y=>y.toList==x.toList)) w):=by
 have HS:=Hq hs;have HLEN:=Hq hs.1;have hcap:=hs.2.1;have hcap2:=hs.2.2.1;clear hs;go_enter Tryz.func101,Tryz.ntmps101;go_wp2;go_loopw [5] (fun k wr=>∃ j:Nat,j≤len∧k=.int .i64 j∧(∀(i:Nat) y,i<j→l[i]? =some y→(y.toList==x.toList)=false)∧wr=w) (fun k _=>len - (intOf k).toNat);case atStart=>exact⟨0,Nat.zero_le _,rfl,fun i u h=>absurd h (Nat.not_lt_zero _),rfl⟩
 case round =>
  obtain⟨j,hj,rfl,hall,rfl⟩:=hrel;have HALL:=Hq hall;clear hall;by_cases hlt:j<len
  · obtain⟨y,he⟩:∃ y,l[j]? =some y:=⟨_,List.getElem?_eq_getElem (by rw[HLEN.out];exact hlt)⟩;obtain⟨b,o,rfl,e0⟩:=HS.out.cellP he;have HE:=Hq he;clear he
    cases hh:(y.toList==x.toList)with
    | true =>
     have HM:=Hq (show l.any (fun y=>y.toList==x.toList)=true from any_atP (p:=fun y=>y.toList==x.toList) HE.out hh);go_wp2;go_ret;exact⟨j,rfl,by rw[HM.out];exact decide_eq_true (by omega),Below.refl _ _⟩
    | false =>
     have HA2:=Hq (show ∀(i:Nat) y,i<j+1→l[i]? =some y→(y.toList==x.toList)=false from fun i u hi hu=>by
      rcases Nat.lt_or_ge i j with a | a
      · exact HALL.out i u a hu
      · obtain rfl:i=j:=by omega
        rw[HE.out]at hu;cases hu
        exact hh)
     go_wp2;go_roundw;case rel=>exact⟨j+1,by omega,by go_num,HA2.out,trivial⟩
     case measure=>simp[intOf];omega
  · obtain rfl:j=len:=by omega
    have HM:=Hq (show l.any (fun y=>y.toList==x.toList)=false from any_takeP (fun i y h=>HALL.out i y (by have:=(List.getElem?_eq_some_iff.1 h).1;have:=HLEN.out;omega) h));clear hlt hj;go_wp2;go_ret;exact⟨-1,rfl,by rw[HM.out];rfl,Below.refl _ _⟩
theorem any_nS(fs:List Nat)(f:Nat):(fs.map nS).any (fun y=>y.toList==(nS f).toList)=decide (f∈fs):=by
 rw[List.any_map,Bool.eq_iff_iff,List.any_eq_true,decide_eq_true_eq];constructor
 · rintro⟨x,hx,h⟩;have : ((nS x).toList==(nS f).toList)=true:=h;rw[nS_beq,decide_eq_true_eq]at this;exact this▸hx
 · intro h;exact⟨f,h,by show ((nS f).toList==(nS f).toList)=true;rw[nS_beq];exact decide_eq_true rfl⟩
def RetFs(fs:List Nat)(w:World)(e:Ending)(w':World):Prop:=∃ A n c,e=.returned (.slice A n c)∧SlN w' A n c (fs.map nS)∧Below w.heap.size w w'
theorem dif_take{fs:List Nat}{j f:Nat}(h:fs[j]? =some f):difN (fs.take (j+1))=if f∈difN (fs.take j)then difN (fs.take j)else difN (fs.take j)++[f]:=by
 rw[List.take_add_one,h];exact dif_snoc _ f
theorem dif_len(l:List Nat):(difN l).length≤l.length:=by
 refine snoc_ind (P:=fun l=>(difN l).length≤l.length) nlr ?_ l;intro l f ih;rw[dif_snoc,List.length_append,List.length_singleton];by_cases h:f∈difN l
 · rw[if_pos h];omega
 · rw[if_neg h,List.length_append,List.length_singleton];omega
theorem r07_different(fs:List Nat)(A:Option Addr)(len cap:Nat)(hlen:len≤900)(w:World)(hs:SlN w A len cap (fs.map nS)):Calls Tryz.prog 61 #[.slice A len cap] w (RetFs (difN fs) w):=by
 have HS:=Hq hs;have HLEN:=Hq (show fs.length=len from by rw[←hs.1,List.length_map]);have hcap:=hs.2.1;have hcap2:=hs.2.2.1;clear hs;go_enter Tryz.func61,Tryz.ntmps61;go_wp2;go_loopw [3,4] (fun v k wr=>∃ j:Nat,j≤len∧k=.int .i64 j∧wr.ownsRow w.heap.size 22 1 v (difN (fs.take j)).length ((difN (fs.take j)).map nS |>.map Value.string)∧Below w.heap.size w wr) (fun _ k _=>len - (intOf k).toNat);case atStart=>exact⟨0,Nat.zero_le _,rfl,World.ownsRow_nil _ _ _ _,Below.refl _ _⟩
 case round =>
  obtain⟨j,hj,rfl,hown,hb⟩:=hrel;have HOWN:=Hq hown;have HB:=Hq hb;obtain⟨hdl,A3,c3,rfl,hs3⟩:=SlN.of_owns hown;clear hown hb;by_cases hlt:j<len
  · obtain⟨f,he⟩:∃ f,fs[j]? =some f:=⟨_,List.getElem?_eq_getElem (by rw[HLEN.out];exact hlt)⟩;obtain⟨b,o,rfl,e0⟩:=(HS.out.kept HB.out nlr).cellP (show (fs.map nS)[j]? =some (nS f)by rw[List.getElem?_map,he];rfl);have HF:=Hq (r07_find _ A3 _ c3 (nS f) wr hs3);rw[any_nS]at HF;have HDT:=Hq (dif_take he);have HDL:=Hq (show (difN (fs.take j)).length≤900 from Nat.le_trans (dif_len _) (by rw[List.length_take];omega));obtain⟨D,hD⟩:∃ D,difN (fs.take j)=D:=⟨_,rfl⟩;rw[hD]at HF HDT HDL HOWN⊢;obtain⟨F,hF⟩:∃ F,nS f=F:=⟨_,rfl⟩;rw[hF]at HF e0;have HFF:=Hq hF;clear he hs3 hdl hD hF;by_cases hm:f∈D
    · have HD2:=Hq (show difN (fs.take (j+1))=D from by rw[HDT.out,if_pos hm]);rw[decide_eq_true hm]at HF;clear hm;go_wp2_with fail;refine HF.out.mono ?_;rintro e w1 ⟨k,rfl,hk,hb⟩;have HB1:=Hq (HB.out.trans (hb.mono HB.out.size));have HO1:=Hq (owns_kept HOWN.out hb nlr);have hk2:decide (k<0)=false:=decide_eq_false (by have:=of_decide_eq_true hk;omega);clear hk hb e0;go_wp2;go_roundw;case rel =>
       refine⟨j+1,by omega,by go_num,?_,HB1.out⟩;rw[HD2.out];exact HO1.out
      case measure=>simp[intOf];omega
    · have HD2:=Hq (show difN (fs.take (j+1))=D++[f]from by rw[HDT.out,if_neg hm]);rw[decide_eq_false hm]at HF;clear hm;go_wp2_with fail;refine HF.out.mono ?_;rintro e w1 ⟨k,rfl,hk,hb⟩;have HB1:=Hq (HB.out.trans (hb.mono HB.out.size));have HO1:=Hq (owns_kept HOWN.out hb nlr);have hk2:decide (k<0)=true:=decide_eq_true (by have:=of_decide_eq_false hk;omega);have e1:=kc hb e0;obtain⟨L,hL⟩:∃ L,D.map nS=L:=⟨_,rfl⟩;rw[hL]at HO1;have HLL:=Hq hL;obtain⟨dl,hdl⟩:∃ n,D.length=n:=⟨_,rfl⟩;rw[hdl]at HO1 HDL⊢;have HDD:=Hq hdl;clear hk hb e0 hL hdl;go_wp2_with (at_builtin;refine wpList_append_strP _ rfl (.tmp 18) (.tmp 23) rfl w.heap.size dl _ L rfl (HO1.out.alloc _) (by have:=HDL.out;omega) w1.heap.size 1 F rfl (heap_alloc_new _ _) (by have:=HB1.out.size;simp;omega) ?_);intro v6 w6 ho6 hb6;have HO6:=Hq (show w6.ownsRow w.heap.size 22 1 v6 (difN (fs.take (j+1))).length ((difN (fs.take (j+1))).map nS |>.map Value.string)from by
       rw[HD2.out,List.length_append,List.length_singleton,HDD.out,List.map_append,HLL.out,List.map_append,List.map_singleton,HFF.out]
       exact ho6)
      have HB6:=Hq ((HB1.out.alloc HB1.out.size _).trans hb6);clear ho6 hb6 e1;go_wp2;go_roundw;case rel=>exact⟨j+1,by omega,by go_num,HO6.out,HB6.out⟩
      case measure=>simp[intOf];omega
  · obtain rfl:j=len:=by omega
    have HTK:=Hq (show fs.take j=fs from List.take_of_length_le (by rw[HLEN.out];exact Nat.le_refl _));have HS3:=Hq hs3;clear hs3;go_wp2;go_ret;exact⟨A3,_,c3,rfl,by have:=HS3.out;rw[show (difN (fs.take j)).map nS=(difN fs).map nS from by rw[HTK.out]]at this;exact this,HB.out⟩
set_option maxRecDepth 100000
set_option maxHeartbeats 2000000
theorem r03_timesL(x y m:Nat)(hx:x<256 ^ 128)(hy:y<256 ^ 128)(hm8:18446744073709551616≤m)(hm64:m<256 ^ 64)(w:World):Calls Tryz.prog 141 #[.string (nS x),.string (nS y),.string (nS m)] w (Ret (.string (nS (x * y%m))) w):=by
 have h0:0<m:=by omega
 have hm:m<256 ^ 128:=Nat.lt_trans hm64 (by decide);have hx2:x%m<256 ^ 64:=Nat.lt_trans (Nat.mod_lt x h0) hm64;have hy2:y%m<256 ^ 64:=Nat.lt_trans (Nat.mod_lt y h0) hm64;have hsz:=nS_size_le.2 hm;have HSM:=Hq (fun w=>r01_Small_no (nS m) (by omega) (.inr ⟨nvalid_nS.2 hm,by
  rcases Nat.lt_or_ge 8 (nS m).size with h | h
  · exact h
  · exact absurd (nS_size_le.1 h) (Nat.not_lt.2 hm8)⟩) w)
 have HMX:=Hq (r03_Mod x m hx hm h0);have HMY:=Hq (r03_Mod y m hy hm h0);have HEQ:=Hq (Nat.mul_mod x y m).symm;obtain⟨X,hX⟩:∃ X,x%m=X:=⟨_,rfl⟩;obtain⟨Y,hY⟩:∃ Y,y%m=Y:=⟨_,rfl⟩;rw[hX]at HMX HEQ hx2;rw[hY]at HMY HEQ hy2;have hp:=show X * Y<256 ^ 128 from Nat.lt_of_lt_of_le (Nat.mul_lt_mul'' hx2 hy2) (by decide);have HMM:=Hq (r01_Mul X Y (Nat.lt_trans hx2 (by decide)) (Nat.lt_trans hy2 (by decide)));rw[fitR_small hp]at HMM;have HMZ:=Hq (r03_Mod (X * Y) m hp hm h0);rw[HEQ.out]at HMZ;obtain⟨s,hs⟩:∃ s,nS x=s:=⟨_,rfl⟩;obtain⟨t,ht⟩:∃ t,nS y=t:=⟨_,rfl⟩;obtain⟨u,hu⟩:∃ u,nS m=u:=⟨_,rfl⟩;rw[hs]at HMX⊢;rw[ht]at HMY⊢;rw[hu]at HSM HMX HMY HMZ⊢;obtain⟨z,hz⟩:∃ z,x * y%m=z:=⟨_,rfl⟩;rw[hz]at HMZ⊢;obtain⟨p,hpp⟩:∃ p,X * Y=p:=⟨_,rfl⟩;rw[hpp]at HMM HMZ;clear hs ht hu hz hpp hp hm hx hy hx2 hy2 hX hY hm8 hm64 hsz;go_enter Tryz.func141,Tryz.ntmps141;go_wp2_with fail;refine(HSM.out _).mono ?_;rintro e w1 ⟨rfl,rfl⟩;go_wp2_with fail;refine(HMX.out _).mono ?_;rintro e w1 ⟨rfl,hb1⟩;have HB1:=Hq hb1;clear hb1;go_wp2_with fail;refine(HMY.out _).mono ?_;rintro e w3 ⟨rfl,hb3⟩;have HB3:=Hq (HB1.out.trans (hb3.mono HB1.out.size));clear hb3;go_wp2_with fail;refine(HMM.out _).mono ?_;rintro e w4 ⟨rfl,hb4⟩;have HB4:=Hq (HB3.out.trans (hb4.mono HB3.out.size));clear hb4;go_wp2_with fail;refine(HMZ.out _).mono ?_;rintro e w5 ⟨rfl,hb5⟩;have HB5:=Hq (HB4.out.trans (hb5.mono HB4.out.size));clear hb5;go_wp2;go_ret;exact⟨rfl,HB5.out⟩
theorem r03_timesA(x y m:Nat)(hx:x<256 ^ 128)(hy:y<256 ^ 128)(hm64:m<256 ^ 64)(h0:0<m)(w:World):Calls Tryz.prog 141 #[.string (nS x),.string (nS y),.string (nS m)] w (Ret (.string (nS (x * y%m))) w):=by
 rcases Nat.lt_or_ge m 18446744073709551616 with h | h
 · exact r03_times x y m hx hy h h0 w
 · exact r03_timesL x y m hx hy h hm64 w
theorem r03_raiseA(a n m:Nat)(ha:a<256 ^ 128)(hn:n<256 ^ 128)(hm64:m<256 ^ 64)(h0:0<m)(w:World):Calls Tryz.prog 128 #[.string (nS a),.string (nS n),.string (nS m)] w (Ret (.string (nS (a ^ n%m))) w):=by
 have hm:m<256 ^ 128:=Nat.lt_trans hm64 (by decide);have HM1:=Hq (r03_Mod 1 m (by decide) hm h0);have HBS:=Hq (r01_Bits n hn);have HBT:=Hq (fun i (hi:i<blen n)=>r01_Bit n i hn hi);have HTT:=Hq (fun E=>r03_timesA (a ^ E%m) (a ^ E%m) m (Nat.lt_trans (Nat.mod_lt _ h0) hm) (Nat.lt_trans (Nat.mod_lt _ h0) hm) hm64 h0);have HTA:=Hq (fun E=>r03_timesA (a ^ E%m) a m (Nat.lt_trans (Nat.mod_lt _ h0) hm) ha hm64 h0);have hb:=blen_1024 hn;have HE0:=Hq (show n / 2 ^ blen n=0 from Nat.div_eq_of_lt (blen_lt n));obtain⟨s,hs⟩:∃ s,nS a=s:=⟨_,rfl⟩;obtain⟨t,ht⟩:∃ t,nS n=t:=⟨_,rfl⟩;obtain⟨u,hu⟩:∃ u,nS m=u:=⟨_,rfl⟩;rw[hs]at HTA⊢;rw[ht]at HBS HBT⊢;rw[hu]at HM1 HTT HTA⊢;obtain⟨B,hB⟩:∃ B,blen n=B:=⟨_,rfl⟩;rw[hB]at HBS HBT hb HE0;clear hs ht hu hB ha hn hm hm64;go_enter Tryz.func128,Tryz.ntmps128;go_wp2_with fail;refine(r01_Of 1 (by decide) _).mono ?_;rintro e w1 ⟨rfl,hb1⟩;have HB1:=Hq hb1;clear hb1;go_wp2_with fail;refine(HM1.out _).mono ?_;rintro e w2 ⟨rfl,hb2⟩;have HB2:=Hq (HB1.out.trans (hb2.mono HB1.out.size));clear hb2;go_wp2_with fail;refine(HBS.out _).mono ?_;rintro e w3 ⟨rfl,rfl⟩;go_wp2;go_loopw [7,8] (fun r i wr=>∃ K:Nat,K≤B∧r=.string (nS (a ^ (n / 2 ^ K)%m))∧i=.int .i64 ((K:Int) - 1)∧Below w.heap.size w wr) (fun _ i _=>(intOf i+1).toNat);case atStart=>exact⟨B,Nat.le_refl _,by rw[HE0.out,Nat.pow_zero],by go_num,HB2.out⟩
 case round =>
  obtain⟨K,hK,rfl,rfl,hBW⟩:=hrel;have HBW:=Hq hBW;clear hBW;by_cases hlt:0<K
  · obtain⟨e,rfl⟩:∃ e,K=e+1:=⟨K - 1,by omega⟩;rw[show ((e+1:Nat):Int) - 1=(e:Int)from by omega];have he0:(0:Int)≤(e:Int):=by omega
    obtain⟨β,hβ,hβ1,hβ0,hup⟩:=half_up n e;have HUP:=Hq hup;have HB1':=Hq hβ1;have HB0':=Hq hβ0;clear hup hβ1 hβ0;obtain⟨E,hE⟩:∃ E,n / 2 ^ (e+1)=E:=⟨_,rfl⟩;rw[hE]at HUP⊢;clear hE;have HTE:=Hq (HTT.out E);rw[pw_two]at HTE;have HTF:=Hq (HTA.out (2 * E));rw[pw_one]at HTF;go_wp2_with fail;refine(HTE.out _).mono ?_;rintro ev w4 ⟨rfl,hb4⟩;have HB4:=Hq (HBW.out.trans (hb4.mono HBW.out.size));clear hb4;go_wp2_with fail;refine(HBT.out e (by omega) _).mono ?_;rintro ev w5 ⟨rfl,rfl⟩;by_cases hbit:bitB n e=true
    · have HBE:=Hq (HB1'.out hbit);rw[hbit];clear hbit;go_wp2_with fail;refine(HTF.out _).mono ?_;rintro ev w6 ⟨rfl,hb6⟩;have HB6:=Hq (HB4.out.trans (hb6.mono HB4.out.size));clear hb6;go_wp2;go_roundw;case rel=>exact⟨e,by omega,by rw[HUP.out,HBE.out],by go_num,HB6.out⟩
      case measure=>simp[intOf]<;>omega
    · rw[Bool.not_eq_true]at hbit;have HBE:=Hq (HB0'.out hbit);rw[hbit];clear hbit;go_wp2;go_roundw;case rel=>exact⟨e,by omega,by rw[HUP.out,HBE.out,Nat.add_zero],by go_num,HB4.out⟩
      case measure=>simp[intOf]<;>omega
  · obtain rfl:K=0:=by omega
    have hneg:((0:Nat):Int) - 1 = -1:=rfl;rw[hneg,Nat.pow_zero,Nat.div_one];go_wp2;go_ret;exact⟨rfl,HBW.out⟩
theorem r03_ExpA(x n m:Nat)(hx8:x<256 ^ 128)(hy8:n<256 ^ 128)(hm64:m<256 ^ 64)(h0:0<m)(w:World):Calls Tryz.prog 105 #[.string (nS x),.string (nS n),.string (nS m)] w (Ret (.tuple #[.string (nS (x ^ n%m)),.int .i64 0]) w):=by
 have HC:=Hq (fun w=>r03_check3 w (nS x) (nS n) (nS m) _ rfl (nvalid_nS.2 hx8) (nvalid_nS.2 hy8) (nvalid_nS.2 (Nat.lt_trans hm64 (by decide))) (empty_nS h0));have HT:=Hq (r03_raiseA x n m hx8 hy8 hm64 h0);obtain⟨s,hs⟩:∃ s,nS x=s:=⟨_,rfl⟩;obtain⟨t,ht⟩:∃ t,nS n=t:=⟨_,rfl⟩;obtain⟨u,hu⟩:∃ u,nS m=u:=⟨_,rfl⟩;rw[hs,ht,hu]at HC HT;rw[hs,ht,hu];clear hs ht hu hx8 hy8 hm64;go_enter Tryz.func105,Tryz.ntmps105;go_wp2_with fail;refine(HC.out w).mono ?_;rintro e w1 ⟨rfl,rfl⟩;go_wp2_with fail;refine(HT.out _).mono ?_;rintro e w2 ⟨rfl,hb2⟩;have HB2:=Hq (((Below.refl w.heap.size w).alloc nlr _).trans (hb2.mono (by simp)));clear hb2;go_wp2;go_ret2;exact⟨rfl,HB2.out⟩
end Go.Proofs.YtdhnkmbjogmmkaaGreatDoor
