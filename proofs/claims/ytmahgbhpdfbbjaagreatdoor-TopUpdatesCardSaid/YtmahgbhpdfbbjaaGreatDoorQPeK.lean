import Derived.Test.YtmahgbhpdfbbjaaGreatDoorQPeG
set_option linter.unusedVariables false
set_option linter.unusedSimpArgs false
namespace Go.Proofs.YtmahgbhpdfbbjaaGreatDoor
set_option maxRecDepth 100000
set_option maxHeartbeats 8000000
open Go.RowKit
def prR(M O:ByteArray)(l:List ByteArray)(zs:List (Bool×ByteArray)):Value:=
 if ckR M O l zs (decide (l.length=zs.length))=0 then .tuple #[.string (nS (prV (num M) l zs)),.int .i64 0]else .tuple #[.string ⟨#[]⟩,.int .i64 (ckR M O l zs (decide (l.length=zs.length)))]
theorem ckR_zero{M O:ByteArray}{l:List ByteArray}{zs:List (Bool×ByteArray)}{same:Bool}(h:ckR M O l zs same=0):l.all nvalid=true∧zs.all (fun z=>zvalid z.1 z.2)=true∧chkK M O=0∧same=true∧l.all (fun s=>hasN (num M) (num O) (num s))=true:=by
 unfold ckR at h
 cases h1:l.all nvalid with
 | false=>rw[h1]at h;cases h
 | true =>
  rw[h1,if_neg (by decide)]at h
  cases h2:zs.all (fun z=>zvalid z.1 z.2)with
  | false=>rw[h2]at h;cases h
  | true =>
   rw[h2,if_neg (by decide)]at h;by_cases h3:chkK M O=0
   · rw[if_pos h3]at h
     cases same with
     | false=>cases h
     | true =>
      rw[if_neg (by decide)]at h
      cases h4:l.all (fun s=>hasN (num M) (num O) (num s))with
      | false=>rw[h4]at h;cases h
      | true=>exact⟨rfl,rfl,h3,rfl,rfl⟩
   · rw[if_neg h3]at h;exact(h3 h).elim
theorem zvalid_nv{b:Bool}{s:ByteArray}(h:zvalid b s=true):nvalid s=true:=by
 unfold zvalid at h;simp only[Bool.and_eq_true]at h;exact h.1
theorem nvalid_lt{s:ByteArray}(h:nvalid s=true):num s<256 ^ 128:=num_lt (by unfold nvalid at h;simp at h;exact h.1)
theorem invN_lt{x M:Nat}(h:0<M):invN x M<M:=by
 unfold invN
 cases hf:(List.range M).find? (fun y=>decide (x * y%M=1))with
 | none=>exact h
 | some z=>exact List.mem_range.1 (List.mem_of_find?_eq_some hf)
theorem mm1(X b m:Nat):X%m * b%m=X * b%m:=by rw[Nat.mul_mod,Nat.mod_mod,←Nat.mul_mod]
def St(w wr:World)(g Bl Bo n:Nat)(f:Nat→ByteArray)(M O:ByteArray)(acc:Nat):Prop:=
 BoxS wr Bo (nS acc)∧OutS wr Bl n n f∧Bx2 wr g (.string M) (.string O) 24∧Below g w wr
theorem St.times{w wr w1:World}{g Bl Bo n:Nat}{f:Nat→ByteArray}{M O:ByteArray}{acc:Nat}(h:St w wr g Bl Bo n f M O acc)(hne:Bl≠Bo∧g≠Bo∧g≤Bo)(hb:Below wr.heap.size wr w1)(acc':Nat) :
 St w (w1.setCell ⟨Bo,0,none⟩ (.string (nS acc'))) g Bl Bo n f M O acc':=by
 obtain⟨h1,h2,h3,h4⟩:=h;have e1:BoxS w1 Bo (nS acc):=(hb.block _ (block_lt h1)).trans h1;have hgs:g≤wr.heap.size:=Nat.le_of_lt h3.lt;refine⟨block_setCell e1 _,(h2.next hb).keep (heap_setCell_other _ _ _ _ hne.1),(heap_setCell_other _ _ _ _ hne.2.1).trans (h3.next hb),?_⟩;exact(h4.trans (hb.mono hgs)).setCell (p:=⟨Bo,0,none⟩) hne.2.2 _
theorem pw_Product_bad(M O:ByteArray)(l:List ByteArray)(zs:List (Bool×ByteArray))(A B:Option Addr)(n c m d:Nat)(hM:M.size≤8)(hO:O.size≤8)(hls:∀ s∈l,s.size≤1000)(hzs:∀ z∈zs,z.2.size≤1000)(hn:n≤100)(hm:m≤100)(w:World)(hl:SlN w A n c l)(hz:SlZ w B m d zs)(hck:ckR M O l zs (decide (l.length=zs.length))≠0) :
 Calls Tryz.prog 24 #[gV M O,.slice A n c,.slice B m d] w (Ret (.tuple #[.string ⟨#[]⟩,.int .i64 (ckR M O l zs (decide (l.length=zs.length)))]) w):=by
 have HB0:=Hq ((Below.refl w.heap.size w).alloc nlr (.cells #[.string M,.string O] 24));have HCK:=Hq (pw_checked M O l zs (decide (l.length=zs.length)) A B n c m d hM hO hls hzs (by omega) (by omega) _ (hl.kept HB0.out nlr) (hz.kept HB0.out nlr));obtain⟨R,hR⟩:=nm (ckR M O l zs (decide (l.length=zs.length)));rw[hR]at HCK hck⊢;have hsm:(((n:Nat):Int)==((m:Nat):Int))=decide (l.length=zs.length):=by rw[hl.1,hz.1,Bool.eq_iff_iff,beq_iff_eq,decide_eq_true_eq];omega
 obtain⟨sm,hsm2⟩:=nm (decide (l.length=zs.length));rw[hsm2]at HCK hsm;have hcb:(R==0)=false:=by rw[beq_eq_false_iff_ne];exact hck
 have hcb2:(R != 0)=true:=by rw[bne,hcb];rfl
 clear hR hsm2 hl hz hls hzs hM hO hck;unfold gV at *;go_enter Tryz.func24,Tryz.ntmps24;go_wp2_with fail;refine HCK.out.mono ?_;rintro e w1 ⟨rfl,hb⟩;have HB1:=bTr HB0 hb;clear hb;go_wp2;go_ret2;exact⟨rfl,HB1.out⟩
theorem pw_Product_good(M O:ByteArray)(l:List ByteArray)(zs:List (Bool×ByteArray))(A B:Option Addr)(n c d:Nat)(hM:M.size≤8)(hO:O.size≤8)(hls:∀ s∈l,s.size≤1000)(hzs:∀ z∈zs,z.2.size≤1000)(hn:n≤100)(w:World)(hl:SlN w A n c l)(hz:SlZ w B n d zs)(hck:ckR M O l zs true=0) :
 Calls Tryz.prog 24 #[gV M O,.slice A n c,.slice B n d] w (Ret (.tuple #[.string (nS (prV (num M) l zs)),.int .i64 0]) w):=by
 have HB0:=Hq ((Below.refl w.heap.size w).alloc nlr (.cells #[.string M,.string O] 24));have HX0:=Hq (Bx2.new w (.string M) (.string O) 24);have HCK:=Hq (pw_checked M O l zs true A B n c n d hM hO hls hzs (by omega) (by omega) _ (hl.kept HB0.out nlr) (hz.kept HB0.out nlr));obtain⟨g1,g2,g3,_,g5⟩:=ckR_zero hck;obtain⟨v1,v2,g6⟩:=chkK_parts g3;rw[hck]at HCK;have hm8:=num_small hM;have hmp:=chkN_one g6;have HL:=Hq hl;have HZ:=Hq hz;have HNL:=Hq hl.1;have HNZ:=Hq hz.1;have hMe:=nS_num v1;obtain⟨m,hm⟩:=nm (num M);rw[hm]at hMe g5 g6 hm8 hmp⊢;have HPM:=Hq hmp;have HM8:=Hq hm8;have HUN:=Hq (fun(s:ByteArray) (k:Nat) (hs:l[k]? =some s)=>show num s<m∧Nat.gcd (num s) m=1∧s=nS (num s)from by
  have h1:=hasN_unit (all_get (l:=l) (p:=fun s=>hasN m (num O) (num s)) g5 hs) g6
  exact⟨h1.1,h1.2.2,nS_num (all_get (l:=l) g1 hs)⟩)
 have HZV:=Hq (fun(z:Bool×ByteArray) (k:Nat) (hs:zs[k]? =some z)=>show z.2=nS (num z.2)∧num z.2<256 ^ 128 from by
  have h1:=zvalid_nv (all_get (l:=zs) (p:=fun z=>zvalid z.1 z.2) g2 hs)
  exact⟨nS_num h1,nvalid_lt h1⟩)
 have HIN:=Hq (fun(x:Nat) (hx:x<m) (hg:Nat.gcd x m=1)=>mod_Inverse x m hx hm8 hmp hg);obtain⟨LL,hLL⟩:=nm (bL m l zs);have HLL:=Hq (fun(k:Nat) (s:ByteArray) (z:Bool×ByteArray) (h1:l[k]? =some s) (h2:zs[k]? =some z)=>show LL[k]? =some (baseN (num s) z.1 m,num z.2)from by rw[←hLL];exact bL_get h1 h2);have HPV:=Hq (show prV m l zs=pp LL 0%m from by unfold prV;rw[hLL]);have HLN:=Hq (show LL.length=n from by rw[←hLL];unfold bL;rw[List.length_zipWith,HNL.out,HNZ.out,Nat.min_self]);obtain⟨f,hf⟩:∃ f:Nat→ByteArray,∀(k:Nat) x,LL[k]? =some x→f k=nS x.1:=⟨fun k=>nS ((LL[k]?).getD (0,0)).1,fun k x h=>by simp only[h];rfl⟩;have HF:=Hq hf;rw[HPV.out];have hsm:(((n:Nat):Int)==((n:Nat):Int))=true:=by simp
 have hmk:=fun(w:World)=>make_strs n (by omega) w;have HMe:=Hq hMe;have HN:=Hq hn;clear hl hz hls hzs hM hO hck g1 g2 g3 g5 v1 v2 g6 hm8 hmp hm hLL hf hMe;unfold gV at *;go_enter Tryz.func24,Tryz.ntmps24;go_wp2_with fail;refine HCK.out.mono ?_;rintro e w1 ⟨rfl,hb⟩;have HB1:=bTr HB0 hb;have HX1:=Hq (HX0.out.next hb);clear hb;go_wp2;clear hmk;have HWK:=Hq (Nat.le_of_lt HX1.out.lt);obtain⟨Bl,hBl⟩:=nm (w1.heap.size);obtain⟨W1,hW1⟩:=nm (w1.alloc (.cells (zs_ n) 22));have HO1:=Hq (show OutS W1 Bl n 0 f from by rw[←hW1,←hBl];exact OutS.start n f);have hb1:Below w1.heap.size w1 W1:=by rw[←hW1];exact(blr).alloc nlr _
 have HX2:=Hq (HX1.out.next hb1);have HB2:=bTr HB1 hb1;have HNE:=Hq (show w.heap.size≤Bl∧w.heap.size≠Bl from by rw[←hBl];have:=HX1.out.lt;exact⟨by omega,by omega⟩);try rw[hW1]
 try rw[hBl]
 have HW1:=Hq hW1;have HBl:=Hq hBl;clear hW1 hBl hb1;go_loopw [10,37] (fun mx i wr=>∃ k:Nat,k≤n∧i=.int .i64 k∧mx=.int .i64 ((mxL (LL.take k):Nat):Int)∧OutS wr Bl n k f∧Bx2 wr w.heap.size (.string M) (.string O) 24∧Below w.heap.size w wr) (fun _ i _=>n - (intOf i).toNat);case atStart=>exact⟨0,Nat.zero_le _,rfl,rfl,by first | exact HO1.out | (rw[HW1.out];exact HO1.out),by first | exact HX2.out | (rw[HW1.out];exact HX2.out),by first | exact HB2.out | (rw[HW1.out];exact HB2.out)⟩
 case round =>
  obtain⟨k,hk,rfl,rfl,hO,hX,hB⟩:=hrel;have HO:=Hq hO;have HX:=Hq hX;have HB:=Hq hB;clear hO hX hB;by_cases hlt:k<n
  · obtain⟨s,hs⟩:∃ s,l[k]? =some s:=⟨_,List.getElem?_eq_getElem (by rw[HNL.out];exact hlt)⟩;obtain⟨z,hz⟩:∃ z,zs[k]? =some z:=⟨_,List.getElem?_eq_getElem (by rw[HNZ.out];exact hlt)⟩;obtain⟨bA,oA,rfl⟩:=HL.out.head (by omega);obtain⟨bZ,oZ,rfl⟩:=HZ.out.head (by omega);have HSL:=Hq (HL.out.kept HB.out nlr);have HSZ:=Hq (HZ.out.kept HB.out nlr);have cA:=HSL.out.get? k hs;obtain⟨cZ0,cZ1⟩:=HSZ.out.get? k hz;have HLk:=Hq (HLL.out k s z hs hz);have HZk:=Hq (HZV.out z k hz);have HSk:=Hq (HUN.out s k hs);have HZc:=Hq hz;obtain⟨zb,zt⟩:=z;dsimp only at cZ0 cZ1 HLk HZk;have HBI:=Hq (fun w=>show Calls Tryz.prog 49 #[.string zt] w (RetQ (.int .i64 (blen (num zt))) w)from by
     have:=nat_Bits (num zt) HZk.out.2 w
     rwa[←HZk.out.1]at this)
    have HMX:=Hq (mxL_take HLk.out);obtain⟨u,hu⟩:=HO.out.has_ hlt;have hfz:=HO.out.free k;have HBC:=Hq (fun(W:World) (hW:Below w.heap.size w W)=>show (W.cell? ⟨bZ,oZ+k * 2+1,none⟩=some (.string zt))from((HZ.out.kept hW nlr).get? k HZc.out).2);have hba:bA≠Bl:=fun e=>by
     have:=World.block_lt_of_cell? _ _ (HL.out.get? k hs);have h2:=HNE.out.1;simp only at this;omega
    have hbz:bZ≠Bl:=fun e=>by
     have:=World.block_lt_of_cell? _ _ (HZ.out.get? k HZc.out).1;have h2:=HNE.out.1;simp only at this;omega
    have HB3:=Hq (HB.out.setCell (p:=⟨Bl,k,none⟩) HNE.out.1 (.string s));have HX3:=Hq (show Bx2 (wr.setCell ⟨Bl,k,none⟩ (.string s)) w.heap.size (.string M) (.string O) 24 from(heap_setCell_other _ _ _ _ HNE.out.2).trans HX.out);have HO3:=Hq (HO.out.put (.string s));clear hs hz
    cases zb with
    | false =>
     have HFk:=Hq (show f k=s from by rw[HF.out k _ HLk.out];exact HSk.out.2.2.symm);have HO4:=Hq (show OutS (wr.setCell ⟨Bl,k,none⟩ (.string s)) Bl n (k+1) f from by have:=HO.out.step hlt;rwa[HFk.out]at this);go_wp2_with fail;refine(HBI.out _).mono ?_;rintro e w2 ⟨rfl,rfl⟩;go_wp2;go_roundw;case rel=>exact⟨k+1,by omega,by go_num,by rw[HMX.out];show Value.int .i64 _=Value.int .i64 _;congr 1;omega,HO4.out,HX3.out,HB3.out⟩
     case measure=>simp[intOf];omega
    | true =>
     have HII:=Hq (HIN.out (num s) HSk.out.1 HSk.out.2.1);rw[←HSk.out.2.2,←HMe.out]at HII;have d0:=HX3.out.c0;have d1:=HX3.out.c1;go_wp2_with fail;refine(HII.out _).mono ?_;rintro e w2 ⟨y,rfl,hb2,hym,hxy⟩;have HFk:=Hq (show f k=nS y from by rw[HF.out k _ HLk.out];unfold baseN;rw[if_pos rfl,invN_of hym hxy]);have HO5:=Hq (HO3.out.next hb2);have HX5:=Hq (HX3.out.next hb2);have HB5:=bTr HB3 hb2;obtain⟨u2,hu2⟩:=HO5.out.has_ hlt;have hf2:=HO5.out.free k;have HO6:=Hq (show OutS (w2.setCell ⟨Bl,k,none⟩ (.string (nS y))) Bl n (k+1) f from by have:=HO5.out.step hlt;rwa[HFk.out]at this);have HX6:=Hq (show Bx2 (w2.setCell ⟨Bl,k,none⟩ (.string (nS y))) w.heap.size (.string M) (.string O) 24 from(heap_setCell_other _ _ _ _ HNE.out.2).trans HX5.out);have HB6:=Hq (HB5.out.setCell (p:=⟨Bl,k,none⟩) HNE.out.1 (.string (nS y)));have cZ2:=HBC.out w2 HB5.out;clear hb2 hxy d0 d1;go_wp2_with fail;refine(HBI.out _).mono ?_;rintro e w3 ⟨rfl,rfl⟩;go_wp2;go_roundw;case rel=>exact⟨k+1,by omega,by go_num,by rw[HMX.out];show Value.int .i64 _=Value.int .i64 _;congr 1;omega,HO6.out,HX6.out,HB6.out⟩
     case measure=>simp[intOf];omega
  · obtain rfl:k=n:=by omega
    have HT:=Hq (show LL.take k=LL from by rw[←HLN.out,List.take_length]);rw[HT.out];obtain⟨mx,hmx⟩:=nm (mxL LL);rw[hmx];have HMX:=Hq hmx;clear hmx;have hmx:mx≤1024:=by
     rw[←HMX.out];have hall:∀(L:List (Nat×Nat)),(∀ x∈L,blen x.2≤1024)→mxL L≤1024:=by
      intro L
      induction L with
      | nil=>intro _;exact Nat.zero_le _
      | cons a L ih=>intro h;have h2:=ih (fun x hx=>h x (List.mem_cons_of_mem _ hx));have h3:=h a List.mem_cons_self;simp only[mxL];omega
     refine hall LL (fun x hx=>?_);obtain⟨j,hj⟩:=List.getElem?_of_mem hx;have hjl:=(List.getElem?_eq_some_iff.1 hj).1;rw[HLN.out]at hjl;obtain⟨s',hs'⟩:∃ s,l[j]? =some s:=⟨_,List.getElem?_eq_getElem (by rw[HNL.out];exact hjl)⟩;obtain⟨z',hz'⟩:∃ z,zs[j]? =some z:=⟨_,List.getElem?_eq_getElem (by rw[HNZ.out];exact hjl)⟩;rw[HLL.out j s' z' hs' hz']at hj;simp only[Option.some.injEq]at hj;rw[←hj];exact blen_1024 (HZV.out z' j hz').2
    go_wp2_with fail;refine(nat_Of 1 (by decide) _).mono ?_;rintro e w2 ⟨rfl,hb2⟩;have HO2:=Hq (HO.out.next hb2);have HX3:=Hq (HX.out.next hb2);have HB3:=bTr HB hb2;clear hb2;go_wp2;obtain⟨Bo,hBo⟩:=nm (w2.heap.size);obtain⟨W3,hW3⟩:=nm (w2.alloc (.cells #[.string (bstr (encN 1))] 22));have hbo:Bl<Bo∧w.heap.size<Bo:=by rw[←hBo];exact⟨HO2.out.lt,HX3.out.lt⟩
    have hb3:Below w2.heap.size w2 W3:=by rw[←hW3];exact(blr).alloc nlr _
    have HST:=Hq (show St w W3 w.heap.size Bl Bo k f M O (pp LL mx%m)from by
     refine⟨?_,HO2.out.next hb3,HX3.out.next hb3,HB3.out.trans (hb3.mono HB3.out.size)⟩;rw[←HMX.out,pp_top,Nat.mod_eq_of_lt HPM.out,←hW3,←hBo]
     exact heap_alloc_new _ _)
    have HNB:=Hq (show Bl≠Bo∧w.heap.size≠Bo∧w.heap.size≤Bo from by omega);try rw[hW3]
    try rw[hBo]
    have HW3:=Hq hW3;clear hW3 hBo hbo hb3;have HPT:=Hq (fun(a x:Nat) (w':World) (hst:St w w' w.heap.size Bl Bo k f M O a) (ha:a<m) (hx:x<m)=>show Calls Tryz.prog 50 #[.string (nS x),.pointer (some ⟨Bo,0,none⟩),.pointer (some ⟨w.heap.size,0,none⟩)] w' (RetT Bo (.string (nS (a * x%m))) w')from by
     have h8:=HM8.out
     exact pw_times w.heap.size Bo a x m O w' (by rw[←HMe.out];exact hst.2.2.1) hst.1 (by omega) (by omega) h8 (by omega))
    go_loopw [17] (fun i wr=>∃ K:Nat,K≤mx∧i=.int .i64 ((K:Int) - 1)∧St w wr w.heap.size Bl Bo k f M O (pp LL K%m)) (fun i _=>(intOf i+1).toNat);case atStart=>exact⟨mx,Nat.le_refl _,rfl,by first | exact HST.out | (rw[HW3.out];exact HST.out)⟩
    case round =>
     obtain⟨K,hK,rfl,hst⟩:=hrel;have HSTK:=Hq hst;clear hst;by_cases hlt:0<K
     · obtain⟨e,rfl⟩:∃ e,K=e+1:=⟨K - 1,by omega⟩;rw[show ((e+1:Nat):Int) - 1=(e:Int)from by omega];have he0:(0:Int)≤(e:Int):=by omega
       obtain⟨P,hP⟩:=nm (pp LL (e+1));have HPP:=Hq hP;rw[hP]at HSTK;clear hP;have cB:wr.cell? ⟨Bo,0,none⟩=some (.string (nS (P%m))):=by rw[Lib.cell_of_heap HSTK.out.1];rfl
       have hpm:P%m<m:=Nat.mod_lt _ (by have:=HPM.out;omega);go_wp2_with fail;refine(HPT.out (P%m) (P%m) _ HSTK.out hpm hpm).mono ?_;rintro ev w4 ⟨rfl,w5,hb5,rfl⟩;have HST4:=Hq (HSTK.out.times HNB.out hb5 (P%m * (P%m)%m));obtain⟨W4,hW4⟩:=nm (w5.setCell ⟨Bo,0,none⟩ (.string (nS (P%m * (P%m)%m))));rw[hW4]at HST4⊢;clear hW4 hb5 cB hpm;go_wp2;go_loopw [87] (fun j wr=>∃ q:Nat,q≤k∧j=.int .i64 q∧St w wr w.heap.size Bl Bo k f M O (P * P * qq (LL.take q) e%m)) (fun j _=>k - (intOf j).toNat);case atStart=>exact⟨0,Nat.zero_le _,rfl,by
        have:=HST4.out;rw[←Nat.mul_mod]at this;rw[List.take_zero,show qq [] e=1 from rfl,Nat.mul_one]
        exact this⟩
       case round =>
        obtain⟨q,hq,rfl,hst⟩:=hrel;have HSQ:=Hq hst;clear hst;by_cases hlq:q<k
        · obtain⟨s,hs⟩:∃ s,l[q]? =some s:=⟨_,List.getElem?_eq_getElem (by rw[HNL.out];exact hlq)⟩;obtain⟨z,hz⟩:∃ z,zs[q]? =some z:=⟨_,List.getElem?_eq_getElem (by rw[HNZ.out];exact hlq)⟩;obtain⟨bZ,oZ,rfl⟩:=HZ.out.head (by omega);obtain⟨cZ0,cZ1⟩:=(HZ.out.kept HSQ.out.2.2.2 nlr).get? q hz;have HLk:=Hq (HLL.out q s z hs hz);have HZk:=Hq (HZV.out z q hz);have HSk:=Hq (HUN.out s q hs);obtain⟨zb,zt⟩:=z;dsimp only at cZ0 cZ1 HLk HZk;have cL:=HSQ.out.2.1.cell hlq;rw[HF.out q _ HLk.out]at cL;have HBT:=Hq (fun w=>show Calls Tryz.prog 52 #[.string zt,.int .i64 e] w (RetQ (.bool (bitB (num zt) e)) w)from by
           have h1:=blen_1024 HZk.out.2;have:=nat_Bit (num zt) e HZk.out.2 (by omega) w
           rwa[←HZk.out.1]at this)
          have HQT:=Hq (qq_take HLk.out e);have HBM:=Hq (show baseN (num s) zb m<m from by
           unfold baseN;split
           · exact invN_lt (by have:=HPM.out;omega)
           · exact HSk.out.1)
          obtain⟨b,hb⟩:=nm (baseN (num s) zb m);rw[hb]at HQT HBM cL;obtain⟨X,hX⟩:=nm (P * P * qq (LL.take q) e);have HXX:=Hq hX;rw[hX]at HSQ;clear hs hz hb hX
          cases hbit:bitB (num zt) e with
          | true =>
           rw[hbit]at HBT HQT;clear hbit;go_wp2_with fail;refine(HBT.out _).mono ?_;rintro ev w6 ⟨rfl,rfl⟩;have hxm:X%m<m:=Nat.mod_lt _ (by have:=HPM.out;omega);go_wp2_with fail;refine(HPT.out (X%m) b _ HSQ.out hxm HBM.out).mono ?_;rintro ev w7 ⟨rfl,w8,hb8,rfl⟩;have HST7:=Hq (HSQ.out.times HNB.out hb8 (X%m * b%m));obtain⟨W7,hW7⟩:=nm (w8.setCell ⟨Bo,0,none⟩ (.string (nS (X%m * b%m))));rw[hW7]at HST7⊢;clear hW7 hb8 hxm;go_wp2;go_roundw;case rel=>exact⟨q+1,by omega,by go_num,by
            have:=HST7.out;rw[mm1]at this;rw[HQT.out,if_pos trivial,←Nat.mul_assoc,HXX.out]
            exact this⟩
           case measure=>simp[intOf];omega
          | false =>
           rw[hbit]at HBT HQT;clear hbit;go_wp2_with fail;refine(HBT.out _).mono ?_;rintro ev w6 ⟨rfl,rfl⟩;go_wp2;go_roundw;case rel=>exact⟨q+1,by omega,by go_num,by
            rw[HQT.out,if_neg (by decide),Nat.mul_one,HXX.out]
            exact HSQ.out⟩
           case measure=>simp[intOf];omega
        · obtain rfl:q=k:=by omega
          have HSE:=Hq (show St w wr w.heap.size Bl Bo q f M O (pp LL e%m)from by
           have:=HSQ.out;rw[HT.out]at this;rw[pp_step,HPP.out]
           exact this)
          go_wp2;go_roundw;case rel=>exact⟨e,by omega,by go_num,HSE.out⟩
          case measure=>simp[intOf]<;>omega
     · obtain rfl:K=0:=by omega
       have hneg:((0:Nat):Int) - 1 = -1:=rfl;rw[hneg];have cB:wr.cell? ⟨Bo,0,none⟩=some (.string (nS (pp LL 0%m))):=by rw[Lib.cell_of_heap HSTK.out.1];rfl
       go_wp2;go_ret2;exact⟨rfl,HSTK.out.2.2.2⟩
theorem pw_Product(M O:ByteArray)(l:List ByteArray)(zs:List (Bool×ByteArray))(A B:Option Addr)(n c m d:Nat)(hM:M.size≤8)(hO:O.size≤8)(hls:∀ s∈l,s.size≤1000)(hzs:∀ z∈zs,z.2.size≤1000)(hn:n≤100)(hm:m≤100)(w:World)(hl:SlN w A n c l)(hz:SlZ w B m d zs) :
 Calls Tryz.prog 24 #[gV M O,.slice A n c,.slice B m d] w (Ret (prR M O l zs) w):=by
 unfold prR;by_cases hck:ckR M O l zs (decide (l.length=zs.length))=0
 · rw[if_pos hck];have hs:=(ckR_zero hck).2.2.2.1;have hlen:=of_decide_eq_true hs;rw[hs]at hck;obtain rfl:n=m:=by rw[←hl.1,←hz.1,hlen]
   exact pw_Product_good M O l zs A B n c d hM hO hls hzs hn w hl hz hck
 · rw[if_neg hck];exact pw_Product_bad M O l zs A B n c m d hM hO hls hzs hn hm w hl hz hck
def fitZ(z:Int):Value:=if z.natAbs<256 ^ 128 then .tuple #[intV z,.int .i64 0]else .tuple #[intV 0,.int .i64 5]
theorem fitR_cut(n:Nat):∃(k:Nat) (c:Int),fitR n=.tuple #[.string (nS k),.int .i64 c]∧∀(z:Int) (b:Bool),z.natAbs=n→sg b n=z→fitZ z=.tuple #[intV (sg b k),.int .i64 c]:=by
 unfold fitR;by_cases h:n<256 ^ 128
 · rw[if_pos h];exact⟨n,0,rfl,fun z b hz hs=>by unfold fitZ;rw[if_pos (by rw[hz];exact h),hs]⟩
 · rw[if_neg h];exact⟨0,5,by rw[nS_zero],fun z b hz hs=>by unfold fitZ;rw[if_neg (by rw[hz];exact h)];cases b<;>rfl⟩
def I3(w W:World)(x0 x1 y0 y1 r0 r1:Value):Prop:=Bx2 W w.heap.size x0 x1 74∧Bx2 W (w.heap.size+1) y0 y1 74∧Bx2 W (w.heap.size+1+1) r0 r1 74∧Below w.heap.size w W
theorem I3.new(w:World)(x0 x1 y0 y1 r0 r1:Value):I3 w (((w.alloc (.cells #[x0,x1] 74)).alloc (.cells #[y0,y1] 74)).alloc (.cells #[r0,r1] 74)) x0 x1 y0 y1 r0 r1:=by
 refine⟨((Bx2.new w _ _ _).next ((blr).alloc nlr _)).next ((blr).alloc nlr _),?_,?_,(((Below.refl w.heap.size w).alloc nlr _).alloc (by simp) _).alloc (by simp;omega) _⟩
 · have:=Bx2.new (w.alloc (.cells #[x0,x1] 74)) y0 y1 74;rw[World.size_alloc]at this;exact this.next ((blr).alloc nlr _)
 · have:=Bx2.new ((w.alloc (.cells #[x0,x1] 74)).alloc (.cells #[y0,y1] 74)) r0 r1 74;rw[World.size_alloc,World.size_alloc]at this;exact this
theorem I3.next{w W W':World}{x0 x1 y0 y1 r0 r1:Value}(h:I3 w W x0 x1 y0 y1 r0 r1)(hb:Below W.heap.size W W'):I3 w W' x0 x1 y0 y1 r0 r1:=by
 have hs:w.heap.size≤W.heap.size:=Nat.le_of_lt h.1.lt;exact⟨h.1.next hb,h.2.1.next hb,h.2.2.1.next hb,h.2.2.2.trans (hb.mono hs)⟩
theorem I3.cells{w W:World}{x0 x1 y0 y1 r0 r1:Value}(h:I3 w W x0 x1 y0 y1 r0 r1):W.cell? ⟨w.heap.size,0,none⟩=some x0∧W.cell? ⟨w.heap.size,1,none⟩=some x1∧W.cell? ⟨w.heap.size+1,0,none⟩=some y0∧W.cell? ⟨w.heap.size+1,1,none⟩=some y1∧W.cell? ⟨w.heap.size+1+1,0,none⟩=some r0∧W.cell? ⟨w.heap.size+1+1,1,none⟩=some r1∧W.frozen? ⟨w.heap.size+1+1,0,none⟩=false∧W.frozen? ⟨w.heap.size+1+1,1,none⟩=false:=
 ⟨h.1.c0,h.1.c1,h.2.1.c0,h.2.1.c1,h.2.2.1.c0,h.2.2.1.c1,h.2.2.1.f0,h.2.2.1.f1⟩
theorem I3.done{w W:World}{x0 x1 y0 y1 r0 r1:Value}(h:I3 w W x0 x1 y0 y1 r0 r1)(u v:Value):((W.setCell ⟨w.heap.size+1+1,0,none⟩ u).setCell ⟨w.heap.size+1+1,1,none⟩ v).cell? ⟨w.heap.size+1+1,0,none⟩=some u∧((W.setCell ⟨w.heap.size+1+1,0,none⟩ u).setCell ⟨w.heap.size+1+1,1,none⟩ v).cell? ⟨w.heap.size+1+1,1,none⟩=some v∧Below w.heap.size w ((W.setCell ⟨w.heap.size+1+1,0,none⟩ u).setCell ⟨w.heap.size+1+1,1,none⟩ v):=by
 have hY:=h.2.2.1.set2 (u:=u) (v:=v);exact⟨hY.c0,hY.c1,(h.2.2.2.setCell (p:=⟨w.heap.size+1+1,0,none⟩) (by simp only[];omega) _).setCell (p:=⟨w.heap.size+1+1,1,none⟩) (by simp only[];omega) _⟩
theorem fitZ_in{z:Int}(h:z.natAbs<256 ^ 128):fitZ z=.tuple #[intV z,.int .i64 0]:=by unfold fitZ;rw[if_pos h]
theorem below_cell{B:Nat}{w W:World}(h:Below B w W){a:Addr}{v:Value}(ha:a.block<B)(hc:w.cell? a=some v):W.cell? a=some v:=by
 rw[World.cell?_of_block (h.block a.block ha)];exact hc
theorem bx2_off{W:World}{B C:Nat}{x y u v:Value}{T:TypeId}(h:Bx2 W B x y T)(hne:B≠C):Bx2 ((W.setCell ⟨C,0,none⟩ u).setCell ⟨C,1,none⟩ v) B x y T:=by
 unfold Bx2;rw[heap_setCell_other _ _ _ _ hne,heap_setCell_other _ _ _ _ hne];exact h
theorem below_set2{B:Nat}{w W:World}(h:Below B w W){C:Nat}(hC:B≤C)(u v:Value):Below B w ((W.setCell ⟨C,0,none⟩ u).setCell ⟨C,1,none⟩ v):=
 (h.setCell (p:=⟨C,0,none⟩) hC u).setCell (p:=⟨C,1,none⟩) hC v
end Go.Proofs.YtmahgbhpdfbbjaaGreatDoor
