import Derived.Test.YtdhnkmbjogmmkaaGreatDoorQCeE
set_option linter.unusedVariables false
set_option linter.unusedSimpArgs false
namespace Go.Proofs.YtdhnkmbjogmmkaaGreatDoor
set_option maxRecDepth 100000
set_option maxHeartbeats 4000000
open Go.RowKit
theorem wpList_append_strP(w:World){ops:Array Oper}{rest:List Oper}{o:Oper}{a:Act}{Q:Exit→Act→World→Prop}(hg:o.guard=none)(s x:Operand)(hop:o.op=Op.call { callee:=Callee.builtin Builtin.append,args:=#[s,x],argTypes:=#[75,75] })
 (base n:Nat) (v:Value) (l:List ByteArray) (hs:a.eval s=v) (hm:w.ownsRow base 22 1 v n (l.map Value.string)) (hn:n≤1000) (B c:Nat) (y:ByteArray) (hx:a.eval x=.slice (some ⟨B,0,none⟩) 1 c) {T:TypeId} {fr:Nat×Nat}
 (hB:w.heap[B]? =some (.cells #[.string y] T fr)) (hbase:base≤w.heap.size)
 (hK:∀ v' w',w'.ownsRow base 22 1 v' (n+1) ((l++[y]).map Value.string)→Below base w w'→wpList Tryz.prog ops Q rest (a.put o.dst v') w'):wpList Tryz.prog ops Q (o::rest) a w:=by
 obtain⟨i0,hi,hz0,hz1,hz2⟩:=info_parts nat_info;have hml:maxLen=9223372036854775807:=rfl;refine wpList_append_lies w hg s x 75 hop base 22 i0 _ 1 16 Tryz.underlying75 hi hz0 hz1 hz2 rfl (by decide) v n (l.map Value.string) hs hm ⟨B,0,none⟩ 1 c [.string y] hx rfl (fun j u hj=>?_) (fun u hu=>by simp at hu;subst hu;rfl) (by decide) (by omega) (by omega) hbase _ rfl (fun g cap w' h1 h2 h3 h4=>hK _ w' ?_ ?_)
 · rw[Addr.add_lit,Nat.zero_add,Lib.cell_of_heap hB];simpa using hj
 · rw[List.map_append];exact h1
 · exact⟨h2.os,h2.tape,h2.output,h2.size,fun k hk=>h2.block k (by omega) (fun e=>by have:=(hm.lt k e.symm).1;omega)⟩
def facP(l:List Stp)(i:Nat):List Nat:=(facN l i).map (primeN l)
theorem facP_at{l:List Stp}(hw:allW l){i:Nat}{s:Stp}(hi:l[i]? =some s){j:Nat}{x:Int}(hj:s.f[j]? =some x):∃(k:Nat) (t:Stp),x=(k:Int)∧k<i∧l[k]? =some t∧t.p=nS (primeN l k)∧(facP l i)[j]? =some (primeN l k):=by
 have hx:=hw.fac hi hj;obtain⟨k,rfl⟩:∃ k:Nat,x=(k:Int):=⟨x.toNat,by omega⟩;have hk:k<i:=by omega
 have hil:=(List.getElem?_eq_some_iff.1 hi).1;obtain⟨t,ht⟩:∃ t,l[k]? =some t:=⟨_,List.getElem?_eq_getElem (by omega)⟩;refine⟨k,t,rfl,hk,ht,?_,?_⟩
 · rw[primeN_at ht];exact nS_num (hw k t ht).1
 · unfold facP;rw[facN_at hi,List.getElem?_map,List.getElem?_map,hj];rfl
theorem facP_len{l:List Stp}{i:Nat}{s:Stp}(hi:l[i]? =some s):(facP l i).length=s.f.length:=by
 unfold facP;rw[facN_at hi,List.length_map,List.length_map]
theorem p16{n:Nat}(h:n<256 ^ 16):n<256 ^ 128:=Nat.lt_of_lt_of_le h (Nat.pow_le_pow_right (by decide) (by decide))
theorem facP_fac{l:List Stp}(hw:allW l)(hc:ShortC l)(i:Nat):FacL ((facP l i).map nS) (facP l i):=by
 refine⟨rfl,fun x hx=>?_,fun x hx=>?_⟩<;>unfold facP at hx<;>obtain⟨k,_,rfl⟩:=List.mem_map.1 hx
 · exact hw.two k
 · exact p16 (prime_lt hc k)
theorem base_lt{l:List Stp}(hc:ShortC l)(i:Nat):baseC l i<256 ^ 128:=by
 unfold baseC
 cases hi:l[i]? with
 | none=>decide
 | some s=>exact num16 (hc.b s (List.mem_of_getElem? hi))
theorem st_tiny{C:Nat→Nat→List Nat→Bool}{l:List Stp}{i:Nat}(h:facN l i=[]):stC C l i=(decide (primeN l i<65536)&&isN (primeN l i)):=by
 unfold stC stepN;rw[if_pos h]
theorem st_fac{l:List Stp}{i:Nat}(h:facN l i≠[]):stC corC l i=((facP l i).all (fun f=>decide (f ∣ primeN l i - 1))&&(decide (primeN l i<(partN (primeN l i - 1) (facP l i)).2 * (partN (primeN l i - 1) (facP l i)).2)&&worksN (primeN l i) (baseC l i) (facP l i))):=by
 unfold stC stepN;rw[if_neg h];rfl
theorem ce_correct(l:List Stp)(hc:ShortC l)(hw:allW l)(i:Nat)(s:Stp)(hi:l[i]? =some s)(A:Option Addr)(len cap:Nat)(A1:Option Addr)(n1 c1:Nat)(w:World)(hs:SlT w A len cap l)(hf:SlI w A1 n1 c1 s.f)(ht:TabAt w):Calls Tryz.prog 33 #[.slice A len cap,.agg #[.string s.p,.string s.b,.slice A1 n1 c1]] w (Ret (.bool (stC corC l i)) w):=by
 have hP:s.p=nS (primeN l i):=by rw[primeN_at hi];exact nS_num (hw i s hi).1
 have h2:=hw.two i;have hlt:=p16 (prime_lt hc i);obtain⟨W0,hW0⟩:∃ W,w.alloc (.cells #[.string s.p,.string s.b,.slice A1 n1 c1] 36)=W:=⟨_,rfl⟩;have hb0:Below w.heap.size w W0:=by rw[←hW0];exact(blr).alloc nlr _
 have HX0:=Hq (show BxT W0 w.heap.size #[.string s.p,.string s.b,.slice A1 n1 c1] 36 from by rw[←hW0];exact BxT.new _ _ _);have HB0:=Hq hb0;have HS0:=Hq (hs.kept hb0 nlr);have HF0:=Hq (hf.kept hb0 nlr);have HT:=Hq (ce_tiny (primeN l i) hlt W0 (ht.kept hb0 nlr));have HN:=Hq (And.intro (show n1≤20 from by rw[←hf.1];exact hc.f s (List.mem_of_getElem? hi)) (And.intro hf.1 hs.1));have hcap:=hs.2.1;have hcap2:=hs.2.2.1;have hn2:=hf.2.1;have hn3:=hf.2.2.1;have HI:=Hq hi;have HW:=Hq hw;have HC:=Hq hc;have H2:=Hq (And.intro h2 hlt);rw[←hP]at HT;have HP:=Hq hP;clear hs hf ht hc hw hi hb0 hP h2 hlt;have c2:W0.cell? ⟨w.heap.size,2,none⟩=some (.slice A1 n1 c1):=HX0.out.cell 2;have c0:W0.cell? ⟨w.heap.size,0,none⟩=some (.string s.p):=HX0.out.cell 0;by_cases hz:n1=0
 · have HR:=Hq (show stC corC l i=(decide (primeN l i<65536)&&isN (primeN l i))from st_tiny (by rw[facN_at HI.out,List.length_eq_zero_iff.1 (HN.out.2.1.trans hz)];rfl));have hz':((n1:Int)==0)=true:=by rw[hz];rfl
   clear hz;go_enter Tryz.func33,Tryz.ntmps33;go_wp2_with fail;try rw[hW0]
   clear hW0;refine HT.out.mono ?_;rintro e w1 ⟨rfl,hb⟩;have HB1:=Hq (HB0.out.trans (hb.mono HB0.out.size));clear hb c0 c2;go_wp2;go_ret;exact⟨by show Ending.returned (.bool (decide (primeN l i<65536)&&isN (primeN l i)))=_;rw[HR.out],HB1.out⟩
 · have hz':¬ ((n1:Int)=0):=by omega
   have HR:=Hq (st_fac (l:=l) (i:=i) (by rw[facN_at HI.out];intro h;exact hz (by rw[←HN.out.2.1,List.map_eq_nil_iff.1 h];rfl)));have HL:=Hq (ce_less (primeN l i) (by have:=H2.out.1;omega) H2.out.2);rw[←HP.out]at HL;clear hz HT;go_enter Tryz.func33,Tryz.ntmps33;go_wp2_with fail;try rw[hW0]
   clear hW0;refine(HL.out _).mono ?_;rintro e w1 ⟨rfl,hb⟩;have HB1:=Hq hb;have HX1:=Hq (HX0.out.next hb);clear hb c0 c2;have c2:w1.cell? ⟨w.heap.size,2,none⟩=some (.slice A1 n1 c1):=HX1.out.cell 2;go_wp2;clear c2;go_loopw [6,24] (fun v k wr=>∃ j:Nat,j≤n1∧k=.int .i64 j∧wr.ownsRow W0.heap.size 22 1 v j (((facP l i).take j).map nS |>.map Value.string)∧(∀(m f:Nat),m<j→(facP l i)[m]? =some f→f ∣ primeN l i - 1)∧Below W0.heap.size W0 wr) (fun _ k _=>n1 - (intOf k).toNat);case atStart=>exact⟨0,Nat.zero_le _,rfl,World.ownsRow_nil _ _ _ _,fun m f h=>absurd h (Nat.not_lt_zero _),HB1.out⟩
   case round =>
    obtain⟨j,hj,rfl,hown,hall,hbw⟩:=hrel;have HOWN:=Hq hown;have HALL:=Hq hall;have HBW:=Hq hbw;clear hown hall hbw;by_cases hlt:j<n1
    · obtain⟨x,he⟩:∃ x,s.f[j]? =some x:=⟨_,List.getElem?_eq_getElem (by rw[HN.out.2.1];exact hlt)⟩;obtain⟨k,t,rfl,hki,hk,htp,hfk⟩:=facP_at HW.out HI.out he;obtain⟨fb,fo,rfl,hcell⟩:=HF0.out.get he;have d0:=cell_kept HBW.out nlr (hcell j _ he);obtain⟨sb,so,rfl,A2,n2,c2,x0,_⟩:=HS0.out.get hk;have x1:=kc HBW.out x0;have hkl:k<len:=by rw[←HN.out.2.2];exact(List.getElem?_eq_some_iff.1 hk).1
      have HD:=Hq (ce_divide (primeN l i - 1) (primeN l k) (by have:=H2.out.2;omega) (p16 (prime_lt HC.out k)) (by have:=HW.out.two k;omega));rw[htp]at x1;have HTK:=Hq (show ((facP l i).take (j+1)).map nS=((facP l i).take j).map nS++[nS (primeN l k)]from by rw[List.take_add_one,hfk,Option.toList_some,List.map_append];rfl);have HFK:=Hq hfk;clear hcell he htp hfk x0 hki hk;by_cases hd:(primeN l i - 1)%primeN l k=0
      · rw[decide_eq_true hd]at HD;have HA2:=Hq (show ∀(m f:Nat),m<j+1→(facP l i)[m]? =some f→f ∣ primeN l i - 1 from fun m f hm hf=>by
         rcases Nat.lt_or_ge m j with h | h
         · exact HALL.out m f h hf
         · obtain rfl:m=j:=by omega
           rw[HFK.out]at hf;cases hf
           exact Nat.dvd_of_mod_eq_zero hd)
        clear hd;go_wp2_with fail;refine(HD.out _).mono ?_;rintro e w1 ⟨rfl,hb⟩;have HB1:=Hq (HBW.out.trans (hb.mono HBW.out.size));have HOWN1:=Hq (owns_kept HOWN.out hb nlr);have y1:=kc hb x1;obtain⟨L,hL⟩:∃ L,((facP l i).take j).map nS=L:=⟨_,rfl⟩;rw[hL]at HOWN1;have HLL:=Hq hL;clear hb d0 x1 hL;go_wp2_with (at_builtin;refine wpList_append_strP _ rfl (.tmp 40) (.tmp 46) rfl W0.heap.size j _ L rfl (HOWN1.out.alloc _) (by have:=HN.out.1;omega) w1.heap.size 1 (nS (primeN l k)) rfl (heap_alloc_new _ _) (by have:=HB1.out.size;simp;omega) ?_);intro v6 w6 ho6 hb6;have HO6:=Hq (show w6.ownsRow W0.heap.size 22 1 v6 (j+1) (((facP l i).take (j+1)).map nS |>.map Value.string)from by rw[HTK.out,HLL.out,List.map_append];exact ho6);have HB6:=Hq ((HB1.out.alloc HB1.out.size _).trans hb6);clear ho6 hb6 y1;go_wp2;go_roundw;case rel=>exact⟨j+1,by omega,by go_num,HO6.out,HA2.out,HB6.out⟩
        case measure=>simp[intOf];omega
      · rw[decide_eq_false hd]at HD;have HRF:=Hq (show stC corC l i=false from by
         rw[HR.out,show (facP l i).all (fun f=>decide (f ∣ primeN l i - 1))=false from ?_,Bool.false_and];rw[List.all_eq_false]
         refine⟨_,List.mem_of_getElem? HFK.out,fun h=>hd (Nat.mod_eq_zero_of_dvd (of_decide_eq_true h))⟩)
        clear hd;go_wp2_with fail;refine(HD.out _).mono ?_;rintro e w1 ⟨rfl,hb⟩;have HB1:=Hq (HBW.out.trans (hb.mono HBW.out.size));clear hb d0 x1;go_wp2;go_ret;exact⟨by show Ending.returned (.bool false)=_;rw[HRF.out],HB0.out.trans (HB1.out.mono HB0.out.size)⟩
    · obtain rfl:j=n1:=by omega
      obtain⟨A3,c3,hv3,hs3⟩:=SlN.of_owns HOWN.out |>.2
      rw[show (facP l i).take j=facP l i from List.take_of_length_le (by rw[facP_len HI.out,HN.out.2.1];exact Nat.le_refl _)]at hs3;subst hv3;have HR2:=Hq (show stC corC l i=(decide (primeN l i<(partN (primeN l i - 1) (facP l i)).2 * (partN (primeN l i - 1) (facP l i)).2)&&worksN (primeN l i) (baseC l i) (facP l i))from by
       rw[HR.out,show (facP l i).all (fun f=>decide (f ∣ primeN l i - 1))=true from List.all_eq_true.2 fun f hf=>?_,Bool.true_and];obtain⟨m,hm⟩:=List.getElem?_of_mem hf
       exact decide_eq_true (HALL.out m f (by have:=(List.getElem?_eq_some_iff.1 hm).1;rw[facP_len HI.out,HN.out.2.1]at this;exact this) hm))
      have HSN:=Hq hs3;have HBR:=Hq (HB0.out.trans (HBW.out.mono HB0.out.size));have HXR:=Hq (HX0.out.next HBW.out);clear hs3;go_wp2;obtain⟨wd,hwd⟩:∃ wd,wr.drew=wd:=⟨_,rfl⟩;have hbd:Below wr.heap.size wr wd:=by rw[←hwd];exact(blr).drew
      have HXD:=Hq (HXR.out.next hbd);have HSD:=Hq (HSN.out.kept hbd nlr);have HBD:=Hq (HBR.out.trans (hbd.mono HBR.out.size));clear hbd HXR HSN;have e0:wd.cell? ⟨w.heap.size,0,none⟩=some (.string s.p):=HXD.out.cell 0;have e1:wd.cell? ⟨w.heap.size,1,none⟩=some (.string s.b):=HXD.out.cell 1;have HPA:=Hq (ce_part (primeN l i - 1) (facP l i) _ A3 j c3 (by have:=H2.out.1;omega) (by have:=H2.out.2;omega) (facP_fac HW.out HC.out i) wd HSD.out);have hpf:(partN (primeN l i - 1) (facP l i)).2<256 ^ 128:=(by obtain⟨h1,h2⟩:=part_mul (m:=primeN l i - 1) (by have:=H2.out.1;omega) (facP l i) (facP_fac HW.out HC.out i).two;have h3:=Nat.le_mul_of_pos_left (partN (primeN l i - 1) (facP l i)).2 h2;rw[h1]at h3;exact Nat.lt_of_le_of_lt h3 (show primeN l i - 1<256 ^ 128 by have:=H2.out.2;omega));have HEN:=Hq (ce_enough _ (primeN l i) hpf H2.out.2);rw[←HP.out]at HEN;have hbs:s.b=nS (baseC l i):=by
       rw[baseC_at HI.out];rcases(HW.out i s HI.out).2.2 with h | h
       · have:=(List.getElem?_eq_some_iff.1 HI.out).1;exact absurd h.1 (fun h'=>by rw[←HN.out.2.1,h']at hz';exact hz' rfl)
       · exact nS_num h.2.2.1
      have HPV:=Hq (fun W (hW:Below wd.heap.size wd W)=>ce_proves (primeN l i) (baseC l i) (facP l i) _ A3 j c3 H2.out.1 H2.out.2 (base_lt HC.out i) (facP_fac HW.out HC.out i) W (HSD.out.kept hW nlr));rw[←HP.out,←hbs]at HPV;obtain⟨F,hF⟩:∃ F,(partN (primeN l i - 1) (facP l i)).2=F:=⟨_,rfl⟩;rw[hF]at HPA HEN HR2;obtain⟨E,hE⟩:∃ E,decide (primeN l i<F * F)=E:=⟨_,rfl⟩;rw[hE]at HEN HR2;obtain⟨V,hV⟩:∃ V,worksN (primeN l i) (baseC l i) (facP l i)=V:=⟨_,rfl⟩;rw[hV]at HPV HR2;obtain⟨ms,hms⟩:∃ ms,nS (primeN l i - 1)=ms:=⟨_,rfl⟩;rw[hms]at HPA⊢;obtain⟨fs,hfs⟩:∃ fs,nS F=fs:=⟨_,rfl⟩;rw[hfs]at HPA HEN;clear hpf hbs hF hE hV hms hfs
      cases E with
      | false =>
       refine wp_region_K 15 (Below (wd).heap.size (wd)) (by kernel_rfl) ?_;intro hD;rw[hwd];refine rP 0 49 14 rfl hD blr ?_;clear hD;intro hD;refine rP 1 50 13 rfl hD blr ?_;clear hD;intro hD;refine rP 3 52 12 rfl hD blr ?_;clear hD;intro hD;refine rT 4 53 11 rfl hD blr (by intro w' hS';have e0:=kC hS' e0;have e1:=kC hS' e1;go_simp;with_reducible rfl) ?_;clear hD;intro hD;simp only[Act.put,sqA,sqB,sqC];refine rO 2 10 rfl hD ?_;clear hD;intro K2 hK2;go_wp2_with fail;refine(show Calls _ _ _ _ _ from HPA.out).mono ?_;rintro ev w3 ⟨rfl,hb⟩;have HB2:=Hq hb;clear hb;go_wp2;refine hK2 _ _ (by exact HB2.out) ?_;clear hK2;intro hS_13_2 hD;refine rO 5 9 rfl hD ?_;clear hD;intro K5 hK5;go_wp2_with fail;refine(HEN.out _).mono ?_;rintro ev w4 ⟨rfl,hb⟩;have HB5:=Hq hb;clear hb;go_wp2;refine hK5 _ _ (by exact Below.trans hS_13_2 (Below.mono HB5.out (Below.size hS_13_2))) ?_;clear hK5;intro hS_13_5 hD;refine rP 6 55 8 rfl hD hS_13_5 ?_;clear hD;intro hD;refine rU 7 56 7 rfl hD hS_13_5 ?_;clear hD;intro hD;refine rU 8 57 6 rfl hD hS_13_5 ?_;clear hD;intro hD;refine rU 9 58 5 rfl hD hS_13_5 ?_;clear hD;intro hD;refine rU 10 59 4 rfl hD hS_13_5 ?_;clear hD;intro hD;refine rU 11 60 3 rfl hD hS_13_5 ?_;clear hD;intro hD;refine rU 12 61 2 rfl hD hS_13_5 ?_;clear hD;intro hD;refine rP 13 62 1 rfl hD hS_13_5 ?_;clear hD;intro hD;simp only[Act.put,sqA,sqB,sqC];refine rO 14 0 rfl hD ?_;clear hD;intro K14 hK14;go_wp2;refine hK14 _ _ (by exact hS_13_5) ?_;clear hK14;intro hS_13_14 hD;refine wpAnyK_done (by kernel_rfl) ?_ 0;clear hD e0 e1;have HB5:=Hq (HBD.out.trans (Below.mono hS_13_14 HBD.out.size));go_wp2;go_ret;exact⟨by show Ending.returned (.bool false)=_;rw[HR2.out];rfl,HB5.out⟩
      | true =>
       refine wp_region_K 15 (Below (wd).heap.size (wd)) (by kernel_rfl) ?_;intro hD;rw[hwd];refine rP 0 49 14 rfl hD blr ?_;clear hD;intro hD;refine rP 1 50 13 rfl hD blr ?_;clear hD;intro hD;refine rP 3 52 12 rfl hD blr ?_;clear hD;intro hD;refine rT 4 53 11 rfl hD blr (by intro w' hS';have e0:=kC hS' e0;have e1:=kC hS' e1;go_simp;with_reducible rfl) ?_;clear hD;intro hD;simp only[Act.put,sqA,sqB,sqC];refine rO 2 10 rfl hD ?_;clear hD;intro K2 hK2;go_wp2_with fail;refine(show Calls _ _ _ _ _ from HPA.out).mono ?_;rintro ev w3 ⟨rfl,hb⟩;have HB2:=Hq hb;clear hb;go_wp2;refine hK2 _ _ (by exact HB2.out) ?_;clear hK2;intro hS_13_2 hD;refine rO 5 9 rfl hD ?_;clear hD;intro K5 hK5;go_wp2_with fail;refine(HEN.out _).mono ?_;rintro ev w4 ⟨rfl,hb⟩;have HB5:=Hq hb;clear hb;go_wp2;refine hK5 _ _ (by exact Below.trans hS_13_2 (Below.mono HB5.out (Below.size hS_13_2))) ?_;clear hK5;intro hS_13_5 hD;refine rP 6 55 8 rfl hD hS_13_5 ?_;clear hD;intro hD;refine rP 7 56 7 rfl hD hS_13_5 ?_;clear hD;intro hD;refine rT 8 57 6 rfl hD hS_13_5 (by intro w' hS';have e0:=kC hS' e0;have e1:=kC hS' e1;go_simp;with_reducible rfl) ?_;clear hD;intro hD;refine rP 9 58 5 rfl hD hS_13_5 ?_;clear hD;intro hD;refine rT 10 59 4 rfl hD hS_13_5 (by intro w' hS';have e0:=kC hS' e0;have e1:=kC hS' e1;go_simp;with_reducible rfl) ?_;clear hD;intro hD;refine rP 11 60 3 rfl hD hS_13_5 ?_;clear hD;intro hD;simp only[Act.put,sqA,sqB,sqC];refine rO 12 2 rfl hD ?_;clear hD;intro K12 hK12;go_wp2_with fail;refine(HPV.out _ hS_13_5).mono ?_;rintro ev w5 ⟨rfl,hb⟩;have HB12:=Hq hb;clear hb;go_wp2;refine hK12 _ _ (by exact Below.trans hS_13_5 (Below.mono HB12.out (Below.size hS_13_5))) ?_;clear hK12;intro hS_13_12 hD;refine rP 13 62 1 rfl hD hS_13_12 ?_;clear hD;intro hD;simp only[Act.put,sqA,sqB,sqC];refine rO 14 0 rfl hD ?_;clear hD;intro K14 hK14;go_wp2;refine hK14 _ _ (by exact hS_13_12) ?_;clear hK14;intro hS_13_14 hD;refine wpAnyK_done (by kernel_rfl) ?_ 0;clear hD e0 e1;have HB5:=Hq (HBD.out.trans (Below.mono hS_13_14 HBD.out.size));go_wp2;go_ret;exact⟨by show Ending.returned (.bool V)=_;rw[HR2.out];rfl,HB5.out⟩
end Go.Proofs.YtdhnkmbjogmmkaaGreatDoor
