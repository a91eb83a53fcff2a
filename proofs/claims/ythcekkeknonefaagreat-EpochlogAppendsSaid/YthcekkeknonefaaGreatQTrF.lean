import Derived.Test.YthcekkeknonefaaGreatQShI
import Derived.Test.YthcekkeknonefaaGreatQNaE
import Derived.Laws.Concat
import Derived.Test.YthcekkeknonefaaGreatQTrB
import Derived.Laws.OwnMore
set_option linter.unusedVariables false
set_option linter.unusedSimpArgs false
namespace Go.Proofs.YthcekkeknonefaaGreat
set_option maxRecDepth 100000
set_option maxHeartbeats 2000000
open Go.RowKit Go.Lib
theorem bstr_snoc(l m:List UInt8):bstr l++⟨m.toArray⟩=bstr (l++m):=by
 unfold bstr;rw[ByteArray.mk_append_mk]
theorem shE8_beN(N:Nat):beN 8 N=shE8 N:=by
 have e:∀ k,UInt8.ofNat (N / 256 ^ k%256)=UInt8.ofNat (N / 2 ^ (8 * k)):=fun k=>by
  rw[Nat.pow_mul];apply UInt8.toNat_inj.1;simp[UInt8.toNat_ofNat']
 show [UInt8.ofNat (N / 256 ^ 7%256),UInt8.ofNat (N / 256 ^ 6%256),UInt8.ofNat (N / 256 ^ 5%256),UInt8.ofNat (N / 256 ^ 4%256),UInt8.ofNat (N / 256 ^ 3%256),UInt8.ofNat (N / 256 ^ 2%256),UInt8.ofNat (N / 256 ^ 1%256),UInt8.ofNat (N / 256 ^ 0%256)]=_;rw[e 7,e 6,e 5,e 4,e 3,e 2,e 1,e 0];simp[shE8]
theorem r05_padded(s:ByteArray)(hs:s.size≤1000000000000)(w:World):Calls Tryz.prog 261 #[.string s] w (Ret (.string (bstr (padL s.data.toList))) w):=by
 obtain⟨n,hn⟩:∃ n,s.size=n:=⟨_,rfl⟩;obtain⟨l,hl⟩:∃ l,s.data.toList=l:=⟨_,rfl⟩;have HL:=Hq (show l.length=n from by rw[←hl,←hn];exact Array.length_toList);have hsl:s=bstr l:=by rw[←hl];exact(bstr_of s).symm
 rw[hl];obtain⟨r,hr⟩:∃ r,bstr (padL l)=r:=⟨_,rfl⟩;have HR:=Hq hr;rw[hr];clear hr;rw[hn]at hs;have hni:(n:Int)≤1000000000000:=by omega
 obtain⟨t1,ht1⟩:∃ t,bstr (l++[128])=t:=⟨_,rfl⟩;have hadd:∀ w,(Op.stringOp .add s ⟨#[128]⟩).run Tryz.prog w=.ok (.string t1) w:=fun w=>by
  rw[run_string_add_sum w _ _ (by rw[hn];show n+1≤_;omega),hsl,←ht1];exact congrArg (fun x=>Result.ok (Value.string x) w) (bstr_snoc l [128])
 have HT1:=Hq ht1;clear hl hsl ht1;go_enter Tryz.func261,Tryz.ntmps261;go_wp2;clear hadd;go_loopw [0] (fun v wr=>∃(k:Nat) (t:ByteArray),k≤zs n∧v=.string t∧t=bstr (l++[128]++List.replicate k 0)∧w=wr) (fun v _=>n+100 - (match v with | .string s=>s.size | _=>0));case atStart=>exact⟨0,t1,Nat.zero_le _,rfl,by rw[←HT1.out];simp,rfl⟩
 case round =>
  obtain⟨k,t,hk,rfl,ht,rfl⟩:=hrel;obtain⟨j,hj⟩:∃ j,n+1+k=j:=⟨_,rfl⟩;have htj:t.size=j:=by rw[ht,bstr_size];simp[HL.out];omega
  have HT:=Hq ht;have HJ:=Hq hj;by_cases hlt:k<zs n
  · have hne:¬ ((j:Int)%64=56):=by have : zs n=(119 - n%64)%64:=rfl;omega
    obtain⟨t2,ht2⟩:∃ x,bstr (l++[128]++List.replicate (k+1) 0)=x:=⟨_,rfl⟩;have hadd:∀ w,(Op.stringOp .add t ⟨#[0]⟩).run Tryz.prog w=.ok (.string t2) w:=fun w=>by
     have hz:zs n≤63:=by unfold zs;omega
     rw[run_string_add_sum w _ _ (by rw[htj];show j+1≤_;omega),ht,←ht2];refine congrArg (fun x=>Result.ok (Value.string x) w) ?_;rw[List.replicate_succ',←List.append_assoc];exact bstr_snoc _ [0]
    have HT2:=Hq ht2
    have hj63 : (j : Int) ≤ 1000000000100 := by have hz : zs n ≤ 63 := by unfold zs; omega
                                                omega
    clear ht ht2 hj hk;go_wp2;refine⟨⟨k+1,t2,by omega,rfl,HT2.out.symm,trivial⟩,?_⟩;have h1:=HT2.out;have h2:t2.size=n+1+(k+1):=by rw[←h1,bstr_size];simp[HL.out];omega
    have h3:=HJ.out;have hz:zs n≤63:=by unfold zs;omega
    show n+100 - t2.size<n+100 - t.size;omega
  · have he:(j:Int)%64=56:=by have : zs n=(119 - n%64)%64:=rfl;omega
    have HKZ:=Hq (show k=zs n from by omega);have hmk:(Instr.makeSlice 166 (.int .i64 8) (.int .i64 8)).run Tryz.prog w=.ok (.slice (some ⟨w.heap.size,0,none⟩) 8 8) (w.alloc (.cells (zb 8) 5)):=make_bytes 8 (by decide) w;have HO:=Hq (OutB.start (w:=w) 8 (n * 8));have HB:=Hq (show Below w.heap.size w (w.alloc (.cells (zb 8) 5))from(Below.refl _ _).alloc (Nat.le_refl _) _);obtain⟨w1,hw1⟩:∃ w1,w.alloc (.cells (zb 8) 5)=w1:=⟨_,rfl⟩;rw[hw1]at hmk HO HB;clear hw1 hk hlt ht hj;obtain⟨H,hH⟩:∃ H,w.heap.size=H:=⟨_,rfl⟩;rw[hH]at hmk HO HB;go_wp2;clear he hmk;go_loopw [5,6] (fun b i wr=>∃ q:Nat,q≤8∧b=.int .u64 ((n * 8 / 256 ^ q:Nat):Int)∧i=.int .i64 (7 - (q:Int))∧OutB wr H 8 q (n * 8)∧Below H w wr) (fun _ i _=>(8+RowKit.intOf i).toNat);case atStart=>exact⟨0,by omega,by simp,rfl,HO.out,HB.out⟩
    case round =>
     obtain⟨q,hq,rfl,rfl,ho,hb⟩:=hrel;have HO:=Hq ho;have HB:=Hq hb;clear ho hb;by_cases hlt:q<8
     · obtain⟨p,hp⟩:∃ p,p+1+q=8:=⟨7 - q,by omega⟩;have hpi:(7:Int) - (q:Int)=(p:Int):=by omega
       obtain⟨N,hN⟩:∃ N,n * 8 / 256 ^ q=N:=⟨_,rfl⟩;have HN:=Hq hN;rw[hN];have hd:((N:Int)%256)=((dig (n * 8) q:Nat):Int):=by rw[←hN];unfold dig;simp
       clear hN;obtain⟨u,c0⟩:=HO.out.cell (show p<8 by omega);have hf:=HO.out.free p;have hp8:(p:Int)<8:=by omega
       have hp0:(0:Int)≤(p:Int):=by omega
       have HP:=Hq hp;clear hp hq hlt;go_wp2;have h1:=HO.out.step (k:=p) (by have:=HP.out;omega);refine⟨⟨q+1,by have:=HP.out;omega,?_,?_,h1,HB.out.setCell (p:=⟨H,p,none⟩) (Nat.le_refl _) _⟩,?_⟩
       · rw[show n * 8 / 256 ^ (q+1)=N / 256 from by rw[←HN.out,Nat.pow_succ,Nat.div_div_eq_div_mul]];have hNn:N≤n * 8:=by rw[←HN.out];exact Nat.div_le_self _ _
         simp;rw[IntKind.wrap_u64];omega
       · have:=HP.out;congr 1;omega
       · have:=HP.out;simp[RowKit.intOf];omega
     · have HQ8:=Hq (show q=8 from by omega);have hge:¬ ((0:Int)≤7 - (q:Int)):=by omega
       have hby:=(show OutB wr H 8 8 (n * 8)from by have:=HO.out;rw[HQ8.out]at this;exact this).bytes (by omega)
       rw[shE8_beN]at hby
       have hconv:=hby.conv 166 9 5 Tryz.underlying166 Tryz.underlying5 Tryz.underlying9;have HE:=Hq (show (bstr (shE8 (n * 8))).size=8 from by rw[bstr_size];rfl);obtain⟨y,hy⟩:∃ y,bstr (shE8 (n * 8))=y:=⟨_,rfl⟩;rw[hy]at hconv HE;have hadd:∀ w,(Op.stringOp .add t y).run Tryz.prog w=.ok (.string r) w:=fun w=>by
        have hz:zs n≤63:=by unfold zs;omega
        have hts:t.size≤1000000000100:=by rw[HT.out,bstr_size];simp[HL.out];have:=HKZ.out;omega
        rw[run_string_add_sum w _ _ (by rw[HE.out];omega),HT.out,←hy,←HR.out];refine congrArg (fun x=>Result.ok (Value.string x) w) ?_;rw[HKZ.out];unfold padL;rw[HL.out];exact bstr_snoc _ _
       clear hby hy hlt hq;go_wp2;go_ret;exact⟨rfl,by rw[hH];exact HB.out⟩
set_option maxRecDepth 100000
set_option maxHeartbeats 2000000
theorem bstr_extract(l:List UInt8)(a b:Nat):(bstr l).extract a b=bstr ((l.drop a).take (b - a)):=ByteArray.extract_mk l a b
theorem bstr_list(l:List UInt8):(bstr l).data.toList=l:=by simp[bstr]
theorem r05_Sum(s:ByteArray)(hs:s.size≤1000000000000)(w:World):Calls Tryz.prog 241 #[.string s] w (Ret (.string (bstr (shaL s.data.toList))) w):=by
 have HPD:=Hq (r05_padded s hs);obtain⟨n,hn⟩:∃ n,s.size=n:=⟨_,rfl⟩;obtain⟨l,hl⟩:∃ l,s.data.toList=l:=⟨_,rfl⟩;have hll:l.length=n:=by rw[←hl,←hn];exact Array.length_toList
 rw[hl]at HPD⊢;obtain⟨r,hr⟩:∃ r,bstr (shaL l)=r:=⟨_,rfl⟩;have HR:=Hq hr;rw[hr];obtain⟨P,hP⟩:∃ P,padL l=P:=⟨_,rfl⟩;rw[hP]at HPD;obtain⟨Ln,hLn⟩:∃ k,P.length=k:=⟨_,rfl⟩;have HLn:=Hq hLn;have HPP:=Hq hP;have HMOD:=Hq (show Ln%64=0 from by rw[←hLn,←hP];exact padL_mod l);have HBIG:=Hq (show Ln≤1000000000100 from by
  rw[←hLn,←hP,padL_length,hll];have : zs n≤63:=by unfold zs;omega
  omega)
 obtain⟨m,hm⟩:∃ m,bstr P=m:=⟨_,rfl⟩;have HM:=Hq hm;have HMS:=Hq (show m.size=Ln from by rw[←hm,bstr_size,hLn]);rw[hm]at HPD;clear hr hP hLn hm hl hll hn hs;have e0:st0.arr=#[Value.int .u32 1779033703,Value.int .u32 3144134277,Value.int .u32 1013904242,Value.int .u32 2773480762,Value.int .u32 1359893119,Value.int .u32 2600822924,Value.int .u32 528734635,Value.int .u32 1541459225]:=by kernel_rfl
 have HS0:=Hq (show RowV8 (w.alloc (.cells st0.arr 232)) w.heap.size 8 st0.at from RowV8.new w st0);have HB0:=Hq (show Below w.heap.size w (w.alloc (.cells st0.arr 232))from(Below.refl _ _).alloc (Nat.le_refl _) _);rw[e0]at HS0 HB0;clear e0;go_enter Tryz.func241,Tryz.ntmps241;go_wp2_with fail;refine(HPD.out _).mono ?_;rintro e w1 ⟨rfl,hb1⟩;have HS1:=Hq (HS0.out.kept hb1 HS0.out.lt);have HB1:=Hq (below_up HB0.out HB0.out.size hb1);obtain⟨H,hH⟩:∃ H,w.heap.size=H:=⟨_,rfl⟩;rw[hH]at HS1 HB1⊢;clear hb1 HS0 HB0 HPD;go_wp2;go_loopw [3,5] (fun v i wr=>∃ k g c:Nat,64 * k≤Ln∧v=.slice (some ⟨g,0,none⟩) 8 c∧i=.int .i64 ((64 * k:Nat):Int)∧RowV8 wr g c (blks st0 k P).at∧Below H w wr) (fun _ i _=>Ln - (RowKit.intOf i).toNat);case atStart=>exact⟨0,H,8,Nat.zero_le _,rfl,rfl,HS1.out,HB1.out⟩
 case round =>
  obtain⟨k,g,c,hk,rfl,rfl,hx,hb⟩:=hrel;have HX:=Hq hx;have HB:=Hq hb;clear hx hb;obtain⟨j,hj⟩:∃ j,64 * k=j:=⟨_,rfl⟩;have HJ:=Hq hj;rw[hj];have hms:=HMS.out;have hbig:=HBIG.out;by_cases hlt:j<Ln
  · have h64:j+64≤Ln:=by have:=HMOD.out;omega
    have hji:(j:Int)<(m.size:Int):=by omega
    have h64i:(j:Int)+64≤(m.size:Int):=by omega
    have hbi:(j:Int)≤1000000000100:=by omega
    clear hj hk hlt h64 hms hbig;go_wp2_with fail;have hlist:(m.extract j (j+64)).data.toList=(P.drop (64 * k)).take 64:=by
     rw[←HM.out,bstr_extract,bstr_list,←HJ.out,Nat.add_sub_cancel_left]
    have hsz:(m.extract j (j+64)).size=64:=(by rw[ByteArray.size_extract];omega);have HC:=r05_compress (blks st0 k P) (m.extract j (j+64)) hsz g c wr HX.out;rw[hlist,←blks_succ]at HC;have HKJ:=Hq (show 64 * (k+1)=j+64∧j+64≤Ln∧j<Ln from by have:=HJ.out;have:=HMS.out;omega);refine HC.mono ?_;rintro e w2 ⟨g2,c2,rfl,hx2,hg2,hb2⟩;have HX2:=Hq hx2;have HB2:=Hq (below_up HB.out (by rw[←hH];exact HB.out.size) hb2);clear hx2 hg2 hb2 HC hlist hsz;go_wp2;refine⟨⟨k+1,g2,c2,?_,rfl,?_,HX2.out,HB2.out⟩,?_⟩
    · rw[HKJ.out.1];exact HKJ.out.2.1
    · rw[HKJ.out.1];simp
    · have:=HKJ.out;simp[RowKit.intOf];omega
  · have hge:¬ ((j:Int)<(m.size:Int)):=by omega
    obtain⟨F,hF⟩:∃ F,blks st0 k P=F:=⟨_,rfl⟩;have HF:=Hq (show r=bstr (F.ws.flatMap wo)from by
     rw[←HR.out,←hF];unfold shaL;rw[HPP.out,HLn.out,show Ln / 64=k from by have:=HJ.out;omega])
    rw[hF]at HX;clear hF hlt hj hk hms hbig;obtain⟨w5,hw5⟩:∃ x,x=wr:=⟨_,rfl⟩;subst hw5;obtain⟨G,hG⟩:∃ G,w5.heap.size=G:=⟨_,rfl⟩;have HHG:=Hq (show H≤G from by rw[←hG,←hH];exact HB.out.size);have HGG:=Hq (show g<G from by rw[←hG];exact HX.out.lt);go_wp2;clear hge;go_loopw [6,7] (fun v x wx=>∃ i:Nat,i≤8∧x=.int .i64 i∧wx.ownsRow G 5 1 v (4 * i) (Lib.byteCells ((F.ws.take i).flatMap wo))∧Below G w5 wx) (fun _ x _=>8 - (RowKit.intOf x).toNat);case atStart=>exact⟨0,by omega,rfl,World.ownsRow_nil _ _ _ _,Below.refl _ _⟩
    case round =>
     obtain⟨i2,hi2,rfl,hown,hb⟩:=hrel;have HO:=Hq hown;have HB2:=Hq hb;clear hown hb;by_cases hlt:i2<8
     · have hi2i:(i2:Int)<8:=by omega
       have HX2:=HX.out.kept HB2.out HGG.out;have cc:=HX2.cell hlt;have HTK:=Hq (ws_take F i2 hlt);obtain⟨x,hx⟩:∃ x,F.at i2=x:=⟨_,rfl⟩;rw[hx]at cc HTK;clear hx HX2;have HWC:=Hq (word_cells x);have HGX:=Hq (show G≤wr.heap.size from by rw[←hG];exact HB2.out.size);go_wp2_with (at_builtin;refine wpList_append_word _ rfl (.tmp 33) (.tmp 45) rfl G (4 * i2) _ ((F.ws.take i2).flatMap wo) rfl (HO.out.alloc _) (by omega) wr.heap.size 4 x rfl (by rw[←HWC.out];exact heap_alloc_new _ _) (by have:=HGX.out;simp;omega) ?_);intro v3 w8 ho8 hb8;have HO8:=Hq ho8;have HB8:=Hq (show Below G w5 w8 from(HB2.out.alloc (by have:=HGX.out;omega) _).trans hb8);clear ho8 hb8 cc;go_wp2;go_roundw;case rel =>
        refine⟨i2+1,by omega,by go_num,?_,HB8.out⟩;rw[HTK.out];exact HO8.out
       case measure=>simp[RowKit.intOf];omega
     · obtain rfl:i2=8:=by omega
       obtain⟨A,c7,rfl,hby⟩:=own_bytes HO.out (show ((F.ws.take 8).flatMap wo).length=4 * 8 from by simp[W8.ws,wo]);have hconv:=hby.conv 166 9 5 Tryz.underlying166 Tryz.underlying5 Tryz.underlying9;have hw8:F.ws.take 8=F.ws:=rfl;rw[hw8,←HF.out]at hconv;clear hby hw8;have HBF:=Hq (show Below H w wr from HB.out.trans (HB2.out.mono HHG.out));go_wp2;go_ret;exact⟨rfl,by rw[hH];exact HBF.out⟩
set_option maxRecDepth 100000
set_option maxHeartbeats 4000000
theorem shE8_drop{q:Nat}(n:Nat)(h:q<8):(shE8 n).drop (7 - q)=UInt8.ofNat (n / 256 ^ q)::(shE8 n).drop (8 - q):=by
 match q,h with
 | 0,_=>simp[shE8]
 | 1,_=>rfl
 | 2,_=>rfl
 | 3,_=>rfl
 | 4,_=>rfl
 | 5,_=>rfl
 | 6,_=>rfl
 | 7,_=>rfl
theorem app_dataT(a b:ByteArray):(a++b).data.toList=a.data.toList++b.data.toList:=by simp
theorem bstr_appendT(l m:List UInt8):bstr l++bstr m=bstr (l++m):=by
 rw[←bstr_of (bstr l++bstr m),app_dataT,bstr_data,bstr_data]
theorem bstr_appS(l:List UInt8)(x:ByteArray):bstr l++x=bstr (l++x.data.toList):=by
 rw[←bstr_appendT,bstr_of]
theorem conv_cellT{w:World}{g:Nat}{c:Int}{cb:UInt8}(h:w.cell? ⟨g,0,none⟩=some (.int .u8 c))(hc:c=(cb.toNat:Int)):(convert 166 9 (.slice (some ⟨g,0,none⟩) 1 1)).run Tryz.prog w=.ok (.string (bstr [cb])) w:=by
 refine BytesAt.conv (bs:=[cb]) (len:=1) (cap:=1) ⟨rfl,Nat.le_refl _,by omega,fun _=>⟨g,0,rfl,fun k hk=>?_⟩⟩ _ _ 5 Tryz.underlying166 Tryz.underlying5 Tryz.underlying9
 match k,hk with
 | 0,_=>rw[h,hc];rfl
theorem r12_Eight(n:Nat)(hn:n≤4611686018427387904)(w:World):Calls Tryz.prog 198 #[.int .i64 n] w (Ret (.string (bstr (shE8 n))) w):=by
 go_enter Tryz.func198,Tryz.ntmps198;go_wp2;go_loopw [0,3,4] (fun x s i wr=>∃ q:Nat,q≤8∧x=.int .i64 ((n / 256 ^ q:Nat):Int)∧s=.string (bstr ((shE8 n).drop (8 - q)))∧i=.int .i64 q∧Below w.heap.size w wr) (fun _ _ i _=>8 - (RowKit.intOf i).toNat);case atStart=>exact⟨0,Nat.zero_le _,by simp,rfl,rfl,Below.refl _ _⟩
 case round =>
  obtain⟨q,hq,rfl,rfl,rfl,hb⟩:=hrel;have HB:=Hq hb;clear hb;by_cases hlt:q<8
  · obtain⟨y,hy⟩:∃ y,n / 256 ^ q=y:=⟨_,rfl⟩;have HY:=Hq hy;have hyb:(y:Int)≤4611686018427387904:=by rw[←hy];have:=Nat.div_le_self n (256 ^ q);omega
    have HD:=Hq (shE8_drop n hlt);rw[hy]at HD⊢;obtain⟨t,ht⟩:∃ t,(shE8 n).drop (8 - q)=t:=⟨_,rfl⟩;have HT:=Hq ht;rw[ht]at HD⊢;have HQ:=Hq hlt;have hqi:(q:Int)<8:=by omega
    have hcv:=conv_cellT (w:=wr.alloc (.cells #[.int .u8 ((y:Int)%256)] 5)) (g:=wr.heap.size) (c:=(y:Int)%256) (cb:=UInt8.ofNat y) (by simp) (by simp[UInt8.toNat_ofNat']);have hadd:=run_string_add_sum (P:=Tryz.prog) (wr.alloc (.cells #[.int .u8 ((y:Int)%256)] 5)) (bstr [UInt8.ofNat y]) (bstr t) (by rw[bstr_size,bstr_size,←ht,List.length_drop];simp[shE8];omega);rw[bstr_appendT]at hadd;clear hy ht hq hlt;go_wp2;refine⟨?_,by have:=HQ.out;simp[RowKit.intOf];omega⟩;refine⟨q+1,HQ.out,?_,?_,rfl,HB.out.alloc HB.out.size _⟩
    · rw[Nat.pow_succ,←Nat.div_div_eq_div_mul,HY.out];rfl
    · rw[show 8 - (q+1)=7 - q from by omega,HD.out]
  · have hq8:q=8:=by omega
    have HQ:=Hq hq8;have hge:¬ ((q:Int)<8):=by omega
    have HR:=Hq (show (shE8 n).drop (8 - q)=shE8 n from by rw[hq8];rfl);rw[HR.out];clear hq hlt hq8;go_wp2;go_ret;exact⟨rfl,HB.out⟩
theorem ptL_take_le{l:List ByteArray}{m:Nat}(h:∀ s∈l,s.size≤m)(hl:l.length≤1000)(k:Nat):(ptL (dt (l.take k))).length≤1000 * (8+m):=
 Nat.le_trans (ptL_le h k) (Nat.mul_le_mul_right _ hl)
theorem r12_Hash(k:UInt8)(A:Option Addr)(n c:Nat)(l:List ByteArray)(hn:n≤1000)(hz:∀ s∈l,s.size≤1000000)(w:World)(hs:SlN w A n c l):Calls Tryz.prog 197 #[.string (bstr [k]),.slice A n c] w (Ret (.string (bstr (trH k (dt l)))) w):=by
 have HS:=Hq hs;have HZ:=Hq hz;have HN:=Hq hn;have HLN:=Hq hs.1;have HE:=Hq (r12_Eight n (by omega));have hadd0:=run_string_add_sum (P:=Tryz.prog);clear hs hz hn;go_enter Tryz.func197,Tryz.ntmps197;go_wp2_with fail;refine(HE.out _).mono ?_;rintro e w1 ⟨rfl,hb1⟩;have hadd:=hadd0 w1 (bstr [k]) (bstr (shE8 n)) (by rw[bstr_size,bstr_size];simp[shE8]);rw[bstr_appendT]at hadd;have HB1:=Hq hb1;have HA:=Hq (fun w a b h=>hadd0 w a b h);clear hb1 hadd0;go_wp2;clear hadd;go_loopw [5,6] (fun s i wr=>∃ q:Nat,q≤n∧s=.string (bstr (k::shE8 n++ptL (dt (l.take q))))∧i=.int .i64 q∧Below w.heap.size w wr) (fun _ i _=>n - (RowKit.intOf i).toNat);case atStart=>exact⟨0,Nat.zero_le _,by simp[ptL,dt],rfl,HB1.out⟩
 case round =>
  obtain⟨q,hq,rfl,rfl,hb⟩:=hrel;have HB:=Hq hb;clear hb;have HPL:=Hq (ptL_take_le HZ.out (by rw[HLN.out];exact HN.out) q);obtain⟨pre,hpre⟩:∃ p,k::shE8 n++ptL (dt (l.take q))=p:=⟨_,rfl⟩;have HPR:=Hq (show pre.length≤2000000000 from by
   rw[←hpre];have h1:=HPL.out;simp[shE8]
   omega)
  have HPP:=Hq hpre;rw[hpre];clear hpre;by_cases hlt:q<n
  · obtain⟨b1,o1,rfl⟩:=HS.out.head (by omega);obtain⟨x,hx⟩:∃ x,l[q]? =some x:=⟨_,List.getElem?_eq_getElem (by have:=HLN.out;omega)⟩;obtain⟨wd,hwd⟩:∃ wd,wr.drew=wd:=⟨_,rfl⟩;have HBD:=Hq (show Below w.heap.size w wd from by rw[←hwd];exact HB.out.drew);have HSD:=Hq (HS.out.kept HBD.out (Nat.le_refl _));have hcx:=HSD.out.get? q hx;have HXS:=Hq (HZ.out x (List.mem_of_getElem? hx));have HEX:=Hq (r12_Eight x.size (by have:=HXS.out;omega));have HX:=Hq hx;have HQ:=Hq hlt;have hqi:(q:Int)<n:=by omega
    have hq9:(q:Int)<1000:=by have:=HN.out;omega
    clear hx hq hlt;go_wp2;refine wp_region_K 14 (Below (wd).heap.size (wd)) (by kernel_rfl) ?_;intro hD;rw[hwd];refine rP 0 18 13 rfl hD (Below.refl _ _) ?_;clear hD;intro hD;simp only[Act.put,sqA,sqB,sqC];refine rP 1 19 12 rfl hD (Below.refl _ _) ?_;clear hD;intro hD;simp only[Act.put,sqA,sqB,sqC];refine rP 2 20 11 rfl hD (Below.refl _ _) ?_;clear hD;intro hD;simp only[Act.put,sqA,sqB,sqC];refine rP 3 21 10 rfl hD (Below.refl _ _) ?_;clear hD;intro hD;simp only[Act.put,sqA,sqB,sqC];refine rT 4 22 9 rfl hD (Below.refl _ _) (by intro w' hS';have e0:=kC hS' hcx;go_simp;with_reducible rfl) ?_;clear hD;intro hD;simp only[Act.put,sqA,sqB,sqC];refine rP 5 23 8 rfl hD (Below.refl _ _) ?_;clear hD;intro hD;simp only[Act.put,sqA,sqB,sqC];refine rP 7 25 7 rfl hD (Below.refl _ _) ?_;clear hD;intro hD;simp only[Act.put,sqA,sqB,sqC];refine rP 8 26 6 rfl hD (Below.refl _ _) ?_;clear hD;intro hD;simp only[Act.put,sqA,sqB,sqC];refine rP 9 27 5 rfl hD (Below.refl _ _) ?_;clear hD;intro hD;simp only[Act.put,sqA,sqB,sqC];refine rT 10 28 4 rfl hD (Below.refl _ _) (by intro w' hS';have e0:=kC hS' hcx;go_simp;with_reducible rfl) ?_;clear hD;intro hD;simp only[Act.put,sqA,sqB,sqC];refine rO 6 3 rfl hD ?_;clear hD;intro K6 hK6;go_wp2_with fail;refine(HEX.out _).mono ?_;rintro e w3 ⟨rfl,hb3⟩;have HB6:=Hq hb3;clear hb3;go_wp2;refine hK6 _ _ (by exact HB6.out) ?_;clear hK6;intro hS_5_6 hD;refine wpAnyK_takeSD (i:=11) (d:=some 29) (v:=(.string (bstr (shE8 x.size++x.data.toList)))) (fuel:=2) rfl (by kernel_rfl) (by kernel_rfl) (by kernel_rfl) (fun _ _ _ h=>h) hD hS_5_6 (.inl ⟨by kernel_rfl,?y5_11b1⟩) ?n5_11b1;case y5_11b1 =>
     intro w' _;go_simp;rw[if_neg (by rw[bstr_size];have:=HXS.out;simp[shE8];omega),bstr_appS]
    clear hD;intro hD;simp only[Act.put,sqA,sqB,sqC];refine wpAnyK_takeSD (i:=12) (d:=some 30) (v:=(.string (bstr (pre++(shE8 x.size++x.data.toList))))) (fuel:=1) rfl (by kernel_rfl) (by kernel_rfl) (by kernel_rfl) (fun _ _ _ h=>h) hD hS_5_6 (.inl ⟨by kernel_rfl,?y5_12b1⟩) ?n5_12b1;case y5_12b1 =>
     intro w' _;go_simp;rw[if_neg (by rw[bstr_size,bstr_size];have:=HPR.out;have:=HXS.out;simp[shE8,data_len];omega),bstr_appendT]
    clear hD;intro hD;simp only[Act.put,sqA,sqB,sqC];refine rO 13 0 rfl hD ?_;clear hD;intro K13 hK13;go_wp2;refine hK13 _ _ (by exact hS_5_6) ?_;clear hK13;intro hS_5_13 hD;have HL:=Hq hS_5_13;refine wpAnyK_done (by kernel_rfl) ?_ 0;clear hD;go_wp2;go_roundw;case rel =>
     refine⟨q+1,HQ.out,?_,rfl,HBD.out.trans (HL.out.mono HBD.out.size)⟩;rw[take_snocT HX.out,dt_snoc,ptL_snoc,data_len,←HPP.out];simp only[List.append_assoc]
    case measure=>have:=HQ.out;simp[RowKit.intOf];omega
  · have hqn:q=n:=by omega
    have HF:=Hq (show pre=frL k (dt l)from by
     rw[←HPP.out,hqn,List.take_of_length_le (by rw[HLN.out];exact Nat.le_refl _)];unfold frL
     rw[dt_length,HLN.out])
    have HSUM:=Hq (r05_Sum (bstr pre) (by rw[bstr_size];have:=HPR.out;omega));rw[bstr_data,HF.out,show shaL (frL k (dt l))=trH k (dt l)from rfl,←HF.out]at HSUM;have hqf:¬ (q:Int)<n:=by omega
    obtain⟨r,hr⟩:∃ r,bstr (trH k (dt l))=r:=⟨_,rfl⟩;have HR:=Hq hr;rw[hr]at HSUM;clear hqn hlt hq hr;go_wp2_with fail;refine(HSUM.out _).mono ?_;rintro e w4 ⟨rfl,hb4⟩;have HB4:=Hq (HB.out.trans (hb4.mono HB.out.size));clear hb4;go_wp2;go_ret;exact⟨by rw[HR.out];rfl,HB4.out⟩
theorem r12_New(a:ByteArray)(ha:a.size≤1000000)(w:World):Calls Tryz.prog 133 #[.string a] w (Ret (.string (bstr (trH 78 (dt [a])))) w):=by
 have HF:=Hq (r12_Hash 78 _ 1 1 [a] (by omega) (by simpa using ha) _ (sln_alloc w [a] 9 (by simp)));rw[show bstr [78]=⟨#[78]⟩from rfl]at HF;obtain⟨r,hr⟩:∃ r,bstr (trH 78 (dt [a]))=r:=⟨_,rfl⟩;rw[hr]at HF⊢;clear hr;have HB:=Hq ((Below.refl w.heap.size w).alloc (Nat.le_refl _) (.cells #[.string a] 9));go_enter Tryz.func133,Tryz.ntmps133;go_wp2_with fail;refine HF.out.mono ?_;rintro e w1 ⟨rfl,hb⟩;have HB1:=Hq (HB.out.trans (hb.mono HB.out.size));clear hb;go_wp2;go_ret;exact⟨rfl,HB1.out⟩
theorem r12_Add(a b c:ByteArray)(ha:a.size≤1000000)(hb:b.size≤1000000)(hc:c.size≤1000000)(w:World):Calls Tryz.prog 135 #[.string a,.string b,.string c] w (Ret (.string (bstr (trH 65 (dt [a,b,c])))) w):=by
 have HF:=Hq (r12_Hash 65 _ 3 3 [a,b,c] (by omega) (by simp;exact⟨ha,hb,hc⟩) _ (sln_alloc w [a,b,c] 9 (by simp)));rw[show bstr [65]=⟨#[65]⟩from rfl]at HF;obtain⟨r,hr⟩:∃ r,bstr (trH 65 (dt [a,b,c]))=r:=⟨_,rfl⟩;rw[hr]at HF⊢;clear hr;have HB:=Hq ((Below.refl w.heap.size w).alloc (Nat.le_refl _) (.cells #[.string a,.string b,.string c] 9));clear ha hb hc;go_enter Tryz.func135,Tryz.ntmps135;go_wp2_with fail;refine HF.out.mono ?_;rintro e w1 ⟨rfl,hb⟩;have HB1:=Hq (HB.out.trans (hb.mono HB.out.size));clear hb;go_wp2;go_ret;exact⟨rfl,HB1.out⟩
theorem r12_Nats(a b:ByteArray)(A1:Option Addr)(n1 c1:Nat)(l1:List ByteArray)(ha:a.size≤1000000)(hb:b.size≤1000000)(hn:n1≤900)(hz:∀ s∈l1,s.size≤1000000)(w:World)(h1:SlN w A1 n1 c1 l1):Calls Tryz.prog 134 #[.string a,.string b,.slice A1 n1 c1] w (Ret (.string (bstr (trH 76 (dt ([a,b]++l1))))) w):=by
 obtain⟨i0,hi,hz0,hz1,hz2⟩:=info_parts str_info;have HZ:=Hq (show ∀ s∈[a,b]++l1,s.size≤1000000 from by
  intro s hs;rcases List.mem_append.1 hs with h | h
  · simp at h;rcases h with rfl | rfl<;>assumption
  · exact hz s h)
 have HS:=Hq h1;have HN:=Hq hn;have HO0:=Hq (World.ownsRow_lit (base:=w.heap.size) (e:=9) (size:=1) w #[.string a,.string b] 2 (Nat.le_refl _) (by decide) rfl);have HB0:=Hq ((Below.refl w.heap.size w).alloc (Nat.le_refl _) (.cells #[.string a,.string b] 9));have HZ0:=Hq (show w.heap.size≤(w.alloc (.cells #[.string a,.string b] 9)).heap.size from by simp);clear ha hb hz h1 hn;go_enter Tryz.func134,Tryz.ntmps134;go_wp2;go_loopw [7,8] (fun v i wr=>∃ j:Nat,j≤n1∧i=.int .i64 j∧wr.ownsRow w.heap.size 9 1 v (2+j) (([a,b]++l1.take j).map Value.string)∧Below w.heap.size w wr∧w.heap.size≤wr.heap.size) (fun _ i _=>n1 - (RowKit.intOf i).toNat);case atStart=>exact⟨0,Nat.zero_le _,rfl,by simpa using HO0.out,HB0.out,HZ0.out⟩
 case round =>
  obtain⟨j,hj,rfl,hown,hb,hzr⟩:=hrel;have HO:=Hq hown;have HB:=Hq hb;have HZR:=Hq hzr;clear hown hb hzr;by_cases hlt:j<n1
  · obtain⟨b1,o1,rfl⟩:=HS.out.head (by omega);obtain⟨x,hx⟩:∃ x,l1[j]? =some x:=⟨_,List.getElem?_eq_getElem (by have:=HS.out.1;omega)⟩;have hcx:=(HS.out.kept HB.out (Nat.le_refl _)).get? j hx;have HX:=Hq hx;have HQ:=Hq hlt;have hji:(j:Int)<n1:=by omega
    have hj9:(j:Int)<1000:=by have:=HN.out;omega
    clear hx hlt hj;go_wp2_with (at_builtin;refine wpList_append_own _ rfl (.tmp 18) (.tmp 23) 237 rfl w.heap.size 9 i0 (.string ⟨#[]⟩) 1 16 Tryz.underlying237 hi hz0 hz1 hz2 rfl (by decide) _ (2+j) _ rfl (HO.out.alloc _) ⟨wr.heap.size,0,none⟩ 1 1 [.string x] rfl rfl ?c1 ?c2 ?c3 ?c4 ?c5 ?_);case c1 =>
     intro i u hu
     match i,hu with
     | 0,hu=>simp at hu;subst hu;simp[Addr.add]
     | (i+1),hu=>simp at hu
    case c2=>intro u hu;simp at hu;subst hu;rfl
    case c3=>have:=HN.out;have:=HQ.out;unfold maxLen;omega
    case c4=>have:=HN.out;have:=HQ.out;omega
    case c5=>simp;exact Nat.le_succ_of_le HZR.out
    intro v' w4 hown hgrow _;have HO4:=Hq hown;have HB4:=Hq (show Below w.heap.size w w4 from(HB.out.alloc HZR.out _).grown hgrow (by simp;exact Nat.le_succ_of_le HZR.out) (fun k hk=>(HO.out.lt k hk).1));have HZ4:=Hq (show w.heap.size≤w4.heap.size from by have:=hgrow.size;simp at this;have:=HZR.out;omega);clear hown hgrow hcx;go_wp2;go_roundw;case rel =>
     refine⟨j+1,HQ.out,by go_num,?_,HB4.out,HZ4.out⟩;rw[take_snocT HX.out,←List.append_assoc,List.map_append,←Nat.add_assoc];have h:=HO4.out;simpa[List.map_take]using h
    case measure=>have:=HQ.out;simp[RowKit.intOf];omega
  · have hjn:j=n1:=by omega
    have hjf:¬ (j:Int)<n1:=by omega
    obtain⟨hl9,A,c,rfl,hs9⟩:=SlN.of_owns HO.out;have hs9':SlN wr A (2+j) c ([a,b]++l1):=(by have h:=hs9;rwa[hjn,List.take_of_length_le (by rw[HS.out.1];exact Nat.le_refl _),←hjn]at h);have HF:=Hq (r12_Hash 76 A (2+j) c ([a,b]++l1) (by have:=HN.out;omega) HZ.out wr hs9');rw[show bstr [76]=⟨#[76]⟩from rfl]at HF;obtain⟨r,hr⟩:∃ r,bstr (trH 76 (dt ([a,b]++l1)))=r:=⟨_,rfl⟩;have HR:=Hq hr;rw[hr]at HF;clear hr hs9 hs9' hl9 hjn hlt hj;go_wp2_with fail;refine HF.out.mono ?_;rintro e w4 ⟨rfl,hb4⟩;have HB4:=Hq (HB.out.trans (hb4.mono HZR.out));clear hb4;go_wp2;go_ret;exact⟨by show _=Ending.returned (.string (bstr (trH 76 (dt ([a,b]++l1)))));rw[HR.out];rfl,HB4.out⟩
end Go.Proofs.YthcekkeknonefaaGreat
