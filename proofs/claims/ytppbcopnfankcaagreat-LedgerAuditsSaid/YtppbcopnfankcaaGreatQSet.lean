import Derived.Test.YtppbcopnfankcaaGreatQLedM
set_option linter.unusedVariables false
set_option linter.unusedSimpArgs false
namespace Go.Proofs.YtppbcopnfankcaaGreat
set_option maxRecDepth 100000
set_option maxHeartbeats 1000000
open Go.RowKit
def EnCells(w:World)(b o:Nat)(e:En):Prop:=w.cell? ⟨b,o,none⟩=some (.int .i64 e.kind)∧w.cell? ⟨b,o+1,none⟩=some (.string e.handle)∧w.cell? ⟨b,o+2,none⟩=some (.string e.schema)∧w.cell? ⟨b,o+3,none⟩=some (.int .i64 e.epoch)
def SlE(w:World)(A:Option Addr)(len cap:Nat)(l:List En):Prop:=
 l.length=len∧len≤cap∧cap≤9223372036854775807∧∃ b o,(0<len→A=some ⟨b,o,none⟩)∧∀ k e,l[k]? =some e→EnCells w b (o+k * 4) e
theorem EnCells.kept{B:Nat}{w w':World}(hb:Below B w w')(hB:w.heap.size≤B){b o:Nat}{e:En}(h:EnCells w b o e):EnCells w' b o e:=
 ⟨cell_kept hb hB h.1,cell_kept hb hB h.2.1,cell_kept hb hB h.2.2.1,cell_kept hb hB h.2.2.2⟩
theorem SlE.kept{B:Nat}{w w':World}(hb:Below B w w')(hB:w.heap.size≤B){A:Option Addr}{len cap:Nat}{l:List En}(h:SlE w A len cap l):SlE w' A len cap l:=
 let ⟨h1,h2,h3,b,o,h4,h5⟩:=h
 ⟨h1,h2,h3,b,o,h4,fun k e hk=>(h5 k e hk).kept hb hB⟩
theorem SlE.head{w:World}{A:Option Addr}{len cap:Nat}{l:List En}(h:SlE w A len cap l)(h0:0<len):∃ b o,A=some ⟨b,o,none⟩:=
 let ⟨_,_,_,b,o,h4,_⟩:=h
 ⟨b,o,h4 h0⟩
theorem SlE.get?{w:World}{b o len cap:Nat}{l:List En}(h:SlE w (some ⟨b,o,none⟩) len cap l)(k:Nat){e:En}(hk:l[k]? =some e):EnCells w b (o+k * 4) e:=by
 obtain⟨h1,h2,h3,b',o',h4,h5⟩:=h;have hl:=(List.getElem?_eq_some_iff.1 hk).1;have:=h4 (by omega);simp only[Option.some.injEq,Addr.mk.injEq,and_true]at this;obtain⟨rfl,rfl⟩:=this;exact h5 k e hk
theorem SlE.take{w:World}{A:Option Addr}{len cap:Nat}{l:List En}(h:SlE w A len cap l)(n:Nat)(hn:n≤len):SlE w A n cap (l.take n):=by
 obtain⟨h1,h2,h3,b,o,h4,h5⟩:=h;refine⟨by rw[List.length_take];omega,by omega,h3,b,o,fun h=>h4 (by omega),fun k e hk=>?_⟩;rw[List.getElem?_take]at hk;split at hk
 · exact h5 k e hk
 · cases hk
def epochN(l:List En):Nat:=l.countP fun e=>e.kind==2
def hasB(l:List En)(q:Int)(u:ByteArray):Bool:=l.any fun e=>e.kind==q&&decide (e.handle=u)
theorem xv{l:List En}{k:Nat}{e:En}(h:l[k]? =some e):epochN (l.take (k+1))=epochN (l.take k)+(if e.kind=2 then 1 else 0):=by
 unfold epochN;rw[qu h,List.countP_append];simp[List.countP_cons,List.countP_nil]
theorem zau(l:List En):epochN l≤l.length:=List.countP_le_length
theorem zbn{l:List En}{k:Nat}{e:En}{q:Int}{u:ByteArray}(h:l[k]? =some e):hasB (l.take (k+1)) q u=(hasB (l.take k) q u||(e.kind==q&&decide (e.handle=u))):=by
 unfold hasB;rw[qu h,List.any_append];simp
theorem zxg{l:List En}{k:Nat}{e:En}{q:Int}{u:ByteArray}(h:l[k]? =some e)(h1:e.kind=q)(h2:e.handle=u):hasB l q u=true:=by
 unfold hasB;rw[List.any_eq_true];exact⟨e,List.mem_of_getElem? h,by simp[h1,h2]⟩
theorem zcv(l:List En)(A:Option Addr)(len cap:Nat)(w:World)(hs:SlE w A len cap l):Calls Tryz.prog 31 #[.slice A len cap] w (RetQ (.int .i64 (epochN l)) w):=by
 have hlen:=hs.1;have hlc:=hs.2.1;have hcap:=hs.2.2.1;have HS:=Hq hs;have HLEN:=Hq hlen;clear hs hlen;go_enter Tryz.func31,Tryz.ntmps31;go_wp2
 go_loop [3,4] (fun n i=>∃ k:Nat,k≤len∧i=.int .i64 k∧n=.int .i64 (epochN (l.take k))) (fun _ i=>len - (intOf i).toNat)
 case atStart=>exact⟨0,Nat.zero_le _,rfl,rfl⟩
 case round =>
  obtain⟨k,hk,rfl,rfl⟩:=hrel;by_cases hlt:k<len
  · obtain⟨b,o,rfl⟩:=HS.out.head (by omega);obtain⟨e,he⟩:∃ e,l[k]? =some e:=⟨_,List.getElem?_eq_getElem (by rw[HLEN.out];exact hlt)⟩;obtain⟨c0,c1,c2,c3⟩:=HS.out.get? k he;have hn:=xv he;have hle:=zau (l.take k);rw[List.length_take]at hle;have hle2:epochN (l.take k)≤k:=by omega
    obtain⟨n,hnn⟩:=nm (epochN (l.take k));rw[hnn]at hn hle2⊢;have HE:=Hq he;clear he hle hnn;by_cases h2:e.kind=2
    · rw[if_pos h2]at hn;have e2:=eqI h2;have HN:=Hq hn;clear hn h2;go_wp2;go_round;case rel=>exact⟨k+1,by omega,by go_num,by rw[HN.out];go_num⟩
      case measure=>simp[intOf];omega
    · rw[if_neg h2]at hn;have e2:=neI h2;have HN:=Hq hn;clear hn h2;go_wp2;go_round;case rel=>exact⟨k+1,by omega,by go_num,by rw[HN.out];rfl⟩
      case measure=>simp[intOf];omega
  · obtain rfl:k=len:=by omega
    rw[List.take_of_length_le (by have:=HLEN.out;omega)];go_wp2;go_ret;exact⟨rfl,rfl⟩
theorem zih(l:List En)(A:Option Addr)(len cap:Nat)(q:Int)(u:ByteArray)(w:World)(hs:SlE w A len cap l):Calls Tryz.prog 51 #[.slice A len cap,.int .i64 q,.string u] w (RetQ (.bool (hasB l q u)) w):=by
 have hlen:=hs.1;have hlc:=hs.2.1;have hcap:=hs.2.2.1;have HS:=Hq hs;have HLEN:=Hq hlen;clear hs hlen;go_enter Tryz.func51,Tryz.ntmps51;go_wp2
 go_loop [7] (fun i=>∃ k:Nat,k≤len∧i=.int .i64 k∧hasB (l.take k) q u=false) (fun i=>len - (intOf i).toNat)
 case atStart=>exact⟨0,Nat.zero_le _,rfl,rfl⟩
 case round =>
  obtain⟨k,hk,rfl,hno⟩:=hrel;have HNO:=Hq hno;clear hno;by_cases hlt:k<len
  · obtain⟨b,o,rfl⟩:=HS.out.head (by omega);obtain⟨e,he⟩:∃ e,l[k]? =some e:=⟨_,List.getElem?_eq_getElem (by rw[HLEN.out];exact hlt)⟩;obtain⟨c0,c1,c2,c3⟩:=HS.out.get? k he;have hn:=zbn (q:=q) (u:=u) he;rw[HNO.out,Bool.false_or]at hn;by_cases h2:e.kind=q
    · by_cases h3:e.handle=u
      · have hr:=zxg he h2 h3;have e2:=eqI h2;have e3:=zdp h3;have HR:=Hq hr;clear hn h2 h3 he hr;go_wp2;go_ret;exact⟨by rw[HR.out];rfl,rfl⟩
      · rw[eqI h2,decide_eq_false h3]at hn;have e2:=eqI h2;have e3:=zcp h3;have HN:=Hq hn;clear hn h2 h3 he;go_wp2;go_round;case rel=>exact⟨k+1,by omega,by go_num,HN.out⟩
        case measure=>simp[intOf];omega
    · rw[neI h2]at hn;have e2:=neI h2;have HN:=Hq hn;clear hn h2 he;go_wp2;go_round;case rel=>exact⟨k+1,by omega,by go_num,HN.out⟩
      case measure=>simp[intOf];omega
  · obtain rfl:k=len:=by omega
    have hno:=HNO.out;rw[List.take_of_length_le (by have:=HLEN.out;omega)]at hno;have HR:=Hq hno;clear hno;go_wp2;go_ret;exact⟨by rw[HR.out];rfl,rfl⟩
set_option maxRecDepth 100000
set_option maxHeartbeats 4000000
def folF(f:Int)(n m:Nat)(was gone:Bool)(q p:Int):Int:=
 if f≠0 then f else if 4096≤n then 6 else if p≠(m:Int)+(if q=2 then 1 else 0)then 21 else if q=0∧was=true then 8 else if q=1∧was=false then 9 else if q=1∧gone=true then 20 else 0
def zv(l:List En)(e:En):Int:=folF (msgS e).2 l.length (epochN l) (hasB l 0 e.handle) (hasB l 1 e.handle) e.kind e.epoch
theorem zsf{f:Int}(h:f≠0)(n m:Nat)(a b:Bool)(q p:Int):folF f n m a b q p=f:=by unfold folF;rw[if_pos h]
theorem zv0{n:Nat}(h:4096≤n)(m:Nat)(a b:Bool)(q p:Int):folF 0 n m a b q p=6:=by unfold folF;rw[if_neg (by simp),if_pos h]
theorem zn4{n m:Nat}(h:n<4096){q p:Int}(hp:p≠(m:Int)+(if q=2 then 1 else 0))(a b:Bool):folF 0 n m a b q p=21:=by unfold folF;rw[if_neg (by simp),if_neg (by omega),if_pos hp]
theorem zn3{n m:Nat}(h:n<4096){q p:Int}(hp:p=(m:Int)+(if q=2 then 1 else 0))(a b:Bool):folF 0 n m a b q p=if q=0∧a=true then 8 else if q=1∧a=false then 9 else if q=1∧b=true then 20 else 0:=by
 unfold folF;rw[if_neg (by simp),if_neg (by omega),if_neg (by simp[hp])]
theorem zns{e:En}(h:(msgS e).2=0):e.kind=0∨e.kind=1∨e.kind=2:=by
 unfold msgS ql at h;by_cases h0:e.kind=0
 · exact .inl h0
 · by_cases h1:e.kind=1
   · exact .inr (.inl h1)
   · by_cases h2:e.kind=2
     · exact .inr (.inr h2)
     · simp[h0,h1,h2]at h
theorem zmb(l:List En)(A:Option Addr)(len cap:Nat)(e:En)(w:World)(hs:SlE w A len cap l)(hh:e.handle.size≤9223372036854775807)(hsc:e.schema.size≤9223372036854775807):Calls Tryz.prog 27 #[.slice A len cap,e.val] w (Ret (.int .i64 (zv l e)) w):=by
 obtain⟨q,h,s,p⟩:=e;have hlc:len≤9223372036854775807:=Nat.le_trans hs.2.1 hs.2.2.1;have hk:=zns (e:=⟨q,h,s,p⟩);obtain⟨m,f,hm⟩:∃ m f,msgS ⟨q,h,s,p⟩=(m,f):=⟨_,_,rfl⟩;have hnl:=zau l;obtain⟨n,hN⟩:=nm (epochN l);obtain⟨a,ha⟩:=nm (hasB l 0 h);obtain⟨b,hb⟩:=nm (hasB l 1 h);obtain⟨R,hR⟩:=nm (zv l ⟨q,h,s,p⟩);rw[hR];unfold zv at hR;simp only[hm,hs.1,hN,ha,hb]at hk hnl hR;have HK:=Hq hk;have HR:=Hq hR;have HM:=Hq hm;have HN:=Hq hN;have HGA:=Hq ha;have HGB:=Hq hb;clear hk hR hm hN ha hb;unfold En.val;obtain⟨W0,hW0⟩:=nm (w.alloc (.cells #[.int .i64 q,.string h,.string s,.int .i64 p] 53));have hbox:W0.heap[w.heap.size]? =some (.cells #[.int .i64 q,.string h,.string s,.int .i64 p] 53 (0,0)):=by rw[←hW0];exact heap_alloc_new _ _
 have hb0:Below w.heap.size w W0:=by rw[←hW0];exact(blr).alloc nlr _
 have hz:w.heap.size+1≤W0.heap.size:=zn hbox;obtain⟨b0,b1,b2,b3⟩:=zf hbox;have HW0:=Hq hW0;have HA0:=Hq hb0;have HS0:=Hq (hs.kept hb0 nlr);have hlen:=hs.1;have HLEN:=Hq hlen;clear hW0 hbox hb0 hs hlen;go_enter Tryz.func27,Tryz.ntmps27;go_wp2_with fail;rw[HW0.out];refine(ze6 ⟨q,h,s,p⟩ _ hh hsc).mono ?_;rintro e w1 ⟨rfl,hb1⟩;have d0:=kc hb1 b0;have d1:=kc hb1 b1;have d2:=kc hb1 b2;have d3:=kc hb1 b3;have HA1:=Hq (HA0.out.trans (hb1.mono (by omega)));have HS1:=Hq (HS0.out.kept hb1 nlr);rw[HM.out];clear b0 b1 b2 b3 HA0 HS0 HW0 hb1 hz;by_cases hf:f=0
 · subst hf;by_cases hn:4096≤len
   · have HRR:=Hq (show R=6 from by rw[←HR.out,zv0 hn]);go_wp2;go_ret;exact⟨by rw[HRR.out];rfl,HA1.out⟩
   · have HN':=Hq (show len<4096 from by omega);go_wp2_with fail;refine(zcv l A len cap _ HS1.out).mono ?_;rintro e w2 ⟨rfl,rfl⟩;rw[HN.out];rcases HK.out (by simp)with k | k | k
     · have k':q=0:=k;subst k';clear k;by_cases hp:p=(n:Int)
       · have HP:=Hq (zn3 (a:=a) (b:=b) HN'.out (show p=(n:Int)+(if (0:Int)=2 then 1 else 0)from by rw[hp,if_neg (by decide)];omega));have hpb:=jh hp;clear hp;go_wp2_with fail;refine(zih l A len cap 0 h _ HS1.out).mono ?_;rintro e w3 ⟨rfl,rfl⟩;rw[HGA.out]
         cases a with
         | true =>
          have HRR:=Hq (show R=8 from by rw[←HR.out,HP.out];simp);go_wp2;go_ret;exact⟨by rw[HRR.out];rfl,HA1.out⟩
         | false =>
          have HRR:=Hq (show R=0 from by rw[←HR.out,HP.out];simp);go_wp2;go_ret;exact⟨by rw[HRR.out];rfl,HA1.out⟩
       · have HRR:=Hq (show R=21 from by rw[←HR.out,zn4 HN'.out (by rw[if_neg (by decide)];omega)]);have hpb:=bnT hp;clear hp;go_wp2;go_ret;exact⟨by rw[HRR.out];rfl,HA1.out⟩
     · have k':q=1:=k;subst k';clear k;by_cases hp:p=(n:Int)
       · have HP:=Hq (zn3 (a:=a) (b:=b) HN'.out (show p=(n:Int)+(if (1:Int)=2 then 1 else 0)from by rw[hp,if_neg (by decide)];omega));have hpb:=jh hp;clear hp;go_wp2_with fail;refine(zih l A len cap 0 h _ HS1.out).mono ?_;rintro e w3 ⟨rfl,rfl⟩;rw[HGA.out]
         cases a with
         | false =>
          have HRR:=Hq (show R=9 from by rw[←HR.out,HP.out];simp);go_wp2;go_ret;exact⟨by rw[HRR.out];rfl,HA1.out⟩
         | true =>
          go_wp2_with fail;refine(zih l A len cap 1 h _ HS1.out).mono ?_;rintro e w3 ⟨rfl,rfl⟩;rw[HGB.out]
          cases b with
          | true =>
           have HRR:=Hq (show R=20 from by rw[←HR.out,HP.out];simp);go_wp2;go_ret;exact⟨by rw[HRR.out];rfl,HA1.out⟩
          | false =>
           have HRR:=Hq (show R=0 from by rw[←HR.out,HP.out];simp);go_wp2;go_ret;exact⟨by rw[HRR.out];rfl,HA1.out⟩
       · have HRR:=Hq (show R=21 from by rw[←HR.out,zn4 HN'.out (by rw[if_neg (by decide)];omega)]);have hpb:=bnT hp;clear hp;go_wp2;go_ret;exact⟨by rw[HRR.out];rfl,HA1.out⟩
     · have k':q=2:=k;subst k';clear k;by_cases hp:p=(n:Int)+1
       · have HRR:=Hq (show R=0 from by rw[←HR.out,zn3 HN'.out (by rw[if_pos rfl];exact hp)];simp);have hpb:=jh hp;clear hp;go_wp2;go_ret;exact⟨by rw[HRR.out];rfl,HA1.out⟩
       · have HRR:=Hq (show R=21 from by rw[←HR.out,zn4 HN'.out (by rw[if_pos rfl];exact hp)]);have hpb:=bnT hp;clear hp;go_wp2;go_ret;exact⟨by rw[HRR.out];rfl,HA1.out⟩
 · have HRR:=Hq (show R=f from by rw[←HR.out,zsf hf]);have hfb:=bnT hf;clear hf;go_wp2;go_ret;exact⟨by rw[HRR.out];rfl,HA1.out⟩
set_option maxRecDepth 100000
set_option maxHeartbeats 2000000
open Go.Maps Go.WideMaps
theorem lawN:Keyed Tryz.prog 22:=string_keyed Tryz.underlying22
theorem zv7(w:World):(zeroValue 89).run Tryz.prog w=.ok (.agg #[]) w:=by kernel_rfl
theorem keyN{s:ByteArray}(h:s.size≤maxLen):keyOf Tryz.prog 22 (.string s)=some (.string s.data.toList):=keyOf_string_mk Tryz.underlying22 h
def SetM(w:World)(b n:Nat)(mem:ByteArray→Bool):Prop:=∃ D:DataW Unit,w.ownsMap Tryz.prog 22 (unitElem (H:=Unit)) b n D∧∀ s:ByteArray,Maps.has D (.string s.data.toList)=mem s
theorem SetM.made(w:World):SetM (w.alloc (.map #[] 0)) w.heap.size 0 (fun _=>false):=⟨_,World.ownsMap_made _ _ _ _,fun _=>rfl⟩
theorem SetM.of_block{w w':World}{b n:Nat}{mem:ByteArray→Bool}(h:SetM w b n mem)(e:w'.heap[b]? =w.heap[b]?):SetM w' b n mem:=by
 obtain⟨D,⟨es,clock,h1,h2⟩,h3⟩:=h;exact⟨D,⟨es,clock,e.trans h1,h2⟩,h3⟩
theorem SetM.lt{w:World}{b n:Nat}{mem:ByteArray→Bool}(h:SetM w b n mem):b<w.heap.size:=by
 obtain⟨D,h1,_⟩:=h;exact h1.lt
theorem SetM.kept{B:Nat}{w w':World}{b n:Nat}{mem:ByteArray→Bool}(h:SetM w b n mem)(hb:Below B w w')(hB:w.heap.size≤B):SetM w' b n mem:=
 h.of_block (hb.block b (Nat.lt_of_lt_of_le h.lt hB))
theorem SetM.mono{w:World}{b n n':Nat}{mem:ByteArray→Bool}(h:SetM w b n mem)(hn:n≤n'):SetM w b n' mem:=by
 obtain⟨D,h1,h2⟩:=h;exact⟨D,h1.mono hn,h2⟩
theorem SetM.congr{w:World}{b n:Nat}{mem mem':ByteArray→Bool}(h:SetM w b n mem)(he:∀ s,mem s=mem' s):SetM w b n mem':=by
 obtain⟨D,h1,h2⟩:=h;exact⟨D,h1,fun s=>(h2 s).trans (he s)⟩
def kf(w:World)(sb n m bi br:Nat):Prop:=w.heap[sb]? =some (.cells #[.int .i64 n,.int .i64 m,.map (some bi),.map (some br)] 70 (0,0))
def StAt(w:World)(sb n m bi br:Nat)(I R:ByteArray→Bool):Prop:=kf w sb n m bi br∧SetM w bi n I∧SetM w br n R∧bi≠br∧sb≠bi∧sb≠br
theorem StAt.kept{B:Nat}{w w':World}{sb n m bi br:Nat}{I R:ByteArray→Bool}(h:StAt w sb n m bi br I R)(hb:Below B w w')(hB:w.heap.size≤B):StAt w' sb n m bi br I R:=
 ⟨zr hb hB h.1,h.2.1.kept hb hB,h.2.2.1.kept hb hB,h.2.2.2⟩
theorem StAt.alloc{w:World}{sb n m bi br:Nat}{I R:ByteArray→Bool}(h:StAt w sb n m bi br I R)(o:Obj):StAt (w.alloc o) sb n m bi br I R:=
 h.kept ((blr).alloc nlr o) nlr
def zgn(B sb n m bi br:Nat)(I R:ByteArray→Bool)(q:Int)(h:ByteArray)(w:World)(e:Ending)(w':World):Prop:=
 e=.returned (.tuple #[])∧StAt w' sb (n+1) (m+if q=2 then 1 else 0) bi br (fun u=>I u||(q==0&&decide (h=u))) (fun u=>R u||(q==1&&decide (h=u)))∧Below B w w'
theorem zl9{w':World}{b n:Nat}{mem:ByteArray→Bool}{h:ByteArray}{D:DataW Unit}(hmem:∀ s:ByteArray,Maps.has D (.string s.data.toList)=mem s)(hm:IsMap D) 
 (hown:w'.ownsMap Tryz.prog 22 (unitElem (H:=Unit)) b (n+1) (D.put (.string h.data.toList) (.agg []))):SetM w' b (n+1) (fun u=>mem u||decide (h=u)):=by
 have hk:WideAt.IsKeyLit (.string h.data.toList):=trivial;refine⟨_,hown,fun s=>?_⟩;by_cases e:h=s
 · subst e;rw[has_put_same hm hk];simp
 · rw[has_put_other (fun hh=>e (by simp only[Lit.string.injEq]at hh;rw[←xd h,←xd s,hh])),hmem s];show mem s=(mem s||decide (h=s));rw[decide_eq_false e,Bool.or_false]
theorem ztn(B sb n m bi br:Nat)(I R:ByteArray→Bool)(q p:Int)(h s:ByteArray)(w:World)(hst:StAt w sb n m bi br I R)(hB1:B≤sb)(hB2:B≤bi)(hB3:B≤br)(hBw:B≤w.heap.size)(hn:n≤4611686018427387904)(hmn:m≤4611686018427387904)(hh:h.size≤maxLen)(hq:(q==0)=true)(hq1:(q==1)=false)(hq2:(q==2)=false)(hqq:¬ q=2) :
 Calls Tryz.prog 19 #[.pointer (some ⟨sb,0,none⟩),.agg #[.int .i64 q,.string h,.string s,.int .i64 p]] w (zgn B sb n m bi br I R q h w):=by
 obtain⟨hsc,hI,hR,hn1,hn2,hn3⟩:=hst;obtain⟨W0,hW0⟩:=nm (w.alloc (.cells #[.int .i64 q,.string h,.string s,.int .i64 p] 53));have hb0:Below w.heap.size w W0:=by rw[←hW0];exact(blr).alloc nlr _
 have hbox:W0.heap[w.heap.size]? =some (.cells #[.int .i64 q,.string h,.string s,.int .i64 p] 53 (0,0)):=by rw[←hW0];exact heap_alloc_new _ _
 have hsc0:=zr hb0 nlr hsc;have hsbl:=zn hsc;have hI0:=hI.kept hb0 nlr;have hR0:=hR.kept hb0 nlr;have hbil:=hI.lt;have hbrl:=hR.lt;obtain⟨c0,c1,c2,c3⟩:=zf hsc0;obtain⟨f0,f1,f2,f3⟩:=jr hsc0;obtain⟨b0,b1,b2,b3⟩:=zf hbox;have HB0:=Hq hb0;have HW0:=Hq hW0;have HSC0:=Hq hsc0;have HBOX:=Hq hbox;have HI0:=Hq hI0;have HR0:=Hq hR0;have HSC:=Hq hsc;have HI:=Hq hI;have HR:=Hq hR;clear hsc hI hR hb0 hsc0 hbox hI0 hR0;subst hW0;go_enter Tryz.func19,Tryz.ntmps19;go_wp2;obtain⟨W1,hW1⟩:=nm ((w.setCell ⟨sb,0,none⟩ (.int .i64 ((n:Int)+1))).alloc (.cells #[.int .i64 q,.string h,.string s,.int .i64 p] 53));rw[hW1];have hsz:(w.setCell ⟨sb,0,none⟩ (.int .i64 ((n:Int)+1))).heap.size=w.heap.size:=by simp[World.setCell]
 have hsc1:kf W1 sb (n+1) m bi br:=by unfold kf;rw[←hW1,Below.heap_alloc _ _ _ (by rw[hsz];exact hsbl)];exact zl HSC.out _
 have hbox1:W1.heap[w.heap.size]? =some (.cells #[.int .i64 q,.string h,.string s,.int .i64 p] 53 (0,0)):=by rw[←hW1,←hsz];exact heap_alloc_new _ _
 have hI1:SetM W1 bi n I:=HI.out.of_block (by rw[←hW1,Below.heap_alloc _ _ _ (by rw[hsz];exact hbil),Below.heap_setCell _ _ _ _ (by simp;omega)]);have hR1:SetM W1 br n R:=HR.out.of_block (by rw[←hW1,Below.heap_alloc _ _ _ (by rw[hsz];exact hbrl),Below.heap_setCell _ _ _ _ (by simp;omega)]);have hb1:Below B w W1:=by rw[←hW1];exact((Below.refl B w).setCell (p:=⟨sb,0,none⟩) hB1 _).alloc (by rw[hsz];exact hBw) _
 clear c0 c1 c2 c3 f0 f1 f2 f3 b0 b1 b2 b3 HB0 HW0 HSC0 HBOX HI0 HR0 HSC HI HR hW1 hsz;obtain⟨c0,c1,c2,c3⟩:=zf hsc1;obtain⟨f0,f1,f2,f3⟩:=jr hsc1;obtain⟨b0,b1,b2,b3⟩:=zf hbox1;have HSC1:=Hq hsc1;have HI1:=Hq hI1;have HR1:=Hq hR1;have HB1:=Hq hb1;clear hsc1 hbox1 hI1 hR1 hb1;obtain⟨D,hown,hmem⟩:=HI1.out;have HOWN:=Hq hown;have HMEM:=Hq hmem;clear hown hmem;refine za 7 (Below (W1.drew).heap.size (W1.drew)) (by kernel_rfl) ?_;refine qPs 0 7 blr ?_;refine qPs 1 6 blr ?_;refine qPs 2 5 blr ?_;refine qTs 3 4 blr (fun w' hS'=>(And.intro (kc hS' c2) (And.intro (kc hS' c3) (kc hS' b1)))) ?_;refine qPs 4 3 blr ?_;refine qTs 5 2 blr (fun w' hS'=>(And.intro (kc hS' c2) (And.intro (kc hS' c3) (kc hS' b1)))) ?_;refine qPs 6 1 blr ?_;refine oT 7 0 ?_;intro K7 hK7;refine(wpList_mapUpdate_own _ rfl _ _ _ 68 rfl 22 89 lawN Tryz.underlying68 unitElem bi n D (by kernel_rfl) HOWN.out.drew (by unfold maxLen;omega) (.string h) (.agg #[]) (.string h.data.toList) (by kernel_rfl) (by kernel_rfl) (keyN hh) (.agg []) [] unitElem_mk ?_);intro w2 hown2 hgrow2;have HOWN2:=Hq hown2;have HG:=Hq hgrow2;clear hown2 hgrow2;go_wp2;refine hK7 _ _ ?_;clear hK7;refine wDn ?_;go_wp2;go_end0;have hz1:sb<W1.heap.size:=zn HSC1.out;have hset:=zl9 HMEM.out HOWN.out.isMap HOWN2.out;have hoth:=(HR1.out.mono (Nat.le_succ n)).of_block (w':=w2) (HG.out.block _ HR1.out.lt (fun e=>by simp only[Option.some.injEq]at e;omega));have hcel:kf w2 sb (n+1) m bi br:=(HG.out.block _ hz1 (fun e=>by simp only[Option.some.injEq]at e;omega)).trans HSC1.out;have hbel:Below B w w2:=HB1.out.drew.grown HG.out (Nat.le_trans hBw HB1.out.size) (fun k hk=>by simp only[Option.some.injEq]at hk;omega);refine⟨rfl,⟨by rw[if_neg hqq];exact hcel,hset.congr (fun u=>by rw[hq,Bool.true_and]),hoth.congr (fun u=>by rw[hq1,Bool.false_and,Bool.or_false]),hn1,hn2,hn3⟩,hbel⟩
theorem ztm(B sb n m bi br:Nat)(I R:ByteArray→Bool)(q p:Int)(h s:ByteArray)(w:World)(hst:StAt w sb n m bi br I R)(hB1:B≤sb)(hB2:B≤bi)(hB3:B≤br)(hBw:B≤w.heap.size)(hn:n≤4611686018427387904)(hmn:m≤4611686018427387904)(hh:h.size≤maxLen)(hq:(q==0)=false)(hq1:(q==1)=true)(hq2:(q==2)=false)(hqq:¬ q=2) :
 Calls Tryz.prog 19 #[.pointer (some ⟨sb,0,none⟩),.agg #[.int .i64 q,.string h,.string s,.int .i64 p]] w (zgn B sb n m bi br I R q h w):=by
 obtain⟨hsc,hI,hR,hn1,hn2,hn3⟩:=hst;obtain⟨W0,hW0⟩:=nm (w.alloc (.cells #[.int .i64 q,.string h,.string s,.int .i64 p] 53));have hb0:Below w.heap.size w W0:=by rw[←hW0];exact(blr).alloc nlr _
 have hbox:W0.heap[w.heap.size]? =some (.cells #[.int .i64 q,.string h,.string s,.int .i64 p] 53 (0,0)):=by rw[←hW0];exact heap_alloc_new _ _
 have hsc0:=zr hb0 nlr hsc;have hsbl:=zn hsc;have hI0:=hI.kept hb0 nlr;have hR0:=hR.kept hb0 nlr;have hbil:=hI.lt;have hbrl:=hR.lt;obtain⟨c0,c1,c2,c3⟩:=zf hsc0;obtain⟨f0,f1,f2,f3⟩:=jr hsc0;obtain⟨b0,b1,b2,b3⟩:=zf hbox;have HB0:=Hq hb0;have HW0:=Hq hW0;have HSC0:=Hq hsc0;have HBOX:=Hq hbox;have HI0:=Hq hI0;have HR0:=Hq hR0;have HSC:=Hq hsc;have HI:=Hq hI;have HR:=Hq hR;clear hsc hI hR hb0 hsc0 hbox hI0 hR0;subst hW0;go_enter Tryz.func19,Tryz.ntmps19;go_wp2;obtain⟨W1,hW1⟩:=nm ((w.setCell ⟨sb,0,none⟩ (.int .i64 ((n:Int)+1))).alloc (.cells #[.int .i64 q,.string h,.string s,.int .i64 p] 53));rw[hW1];have hsz:(w.setCell ⟨sb,0,none⟩ (.int .i64 ((n:Int)+1))).heap.size=w.heap.size:=by simp[World.setCell]
 have hsc1:kf W1 sb (n+1) m bi br:=by unfold kf;rw[←hW1,Below.heap_alloc _ _ _ (by rw[hsz];exact hsbl)];exact zl HSC.out _
 have hbox1:W1.heap[w.heap.size]? =some (.cells #[.int .i64 q,.string h,.string s,.int .i64 p] 53 (0,0)):=by rw[←hW1,←hsz];exact heap_alloc_new _ _
 have hI1:SetM W1 bi n I:=HI.out.of_block (by rw[←hW1,Below.heap_alloc _ _ _ (by rw[hsz];exact hbil),Below.heap_setCell _ _ _ _ (by simp;omega)]);have hR1:SetM W1 br n R:=HR.out.of_block (by rw[←hW1,Below.heap_alloc _ _ _ (by rw[hsz];exact hbrl),Below.heap_setCell _ _ _ _ (by simp;omega)]);have hb1:Below B w W1:=by rw[←hW1];exact((Below.refl B w).setCell (p:=⟨sb,0,none⟩) hB1 _).alloc (by rw[hsz];exact hBw) _
 clear c0 c1 c2 c3 f0 f1 f2 f3 b0 b1 b2 b3 HB0 HW0 HSC0 HBOX HI0 HR0 HSC HI HR hW1 hsz;obtain⟨c0,c1,c2,c3⟩:=zf hsc1;obtain⟨f0,f1,f2,f3⟩:=jr hsc1;obtain⟨b0,b1,b2,b3⟩:=zf hbox1;have HSC1:=Hq hsc1;have HI1:=Hq hI1;have HR1:=Hq hR1;have HB1:=Hq hb1;clear hsc1 hbox1 hI1 hR1 hb1;obtain⟨D,hown,hmem⟩:=HR1.out;have HOWN:=Hq hown;have HMEM:=Hq hmem;clear hown hmem;refine za 7 (Below (W1.drew).heap.size (W1.drew)) (by kernel_rfl) ?_;refine qPs 0 7 blr ?_;refine qPs 1 6 blr ?_;refine qPs 2 5 blr ?_;refine qTs 3 4 blr (fun w' hS'=>(And.intro (kc hS' c2) (And.intro (kc hS' c3) (kc hS' b1)))) ?_;refine qPs 4 3 blr ?_;refine qTs 5 2 blr (fun w' hS'=>(And.intro (kc hS' c2) (And.intro (kc hS' c3) (kc hS' b1)))) ?_;refine qPs 6 1 blr ?_;refine oT 7 0 ?_;intro K7 hK7;refine(wpList_mapUpdate_own _ rfl _ _ _ 68 rfl 22 89 lawN Tryz.underlying68 unitElem br n D (by kernel_rfl) HOWN.out.drew (by unfold maxLen;omega) (.string h) (.agg #[]) (.string h.data.toList) (by kernel_rfl) (by kernel_rfl) (keyN hh) (.agg []) [] unitElem_mk ?_);intro w2 hown2 hgrow2;have HOWN2:=Hq hown2;have HG:=Hq hgrow2;clear hown2 hgrow2;go_wp2;refine hK7 _ _ ?_;clear hK7;refine wDn ?_;go_wp2;go_end0;have hz1:sb<W1.heap.size:=zn HSC1.out;have hset:=zl9 HMEM.out HOWN.out.isMap HOWN2.out;have hoth:=(HI1.out.mono (Nat.le_succ n)).of_block (w':=w2) (HG.out.block _ HI1.out.lt (fun e=>by simp only[Option.some.injEq]at e;omega));have hcel:kf w2 sb (n+1) m bi br:=(HG.out.block _ hz1 (fun e=>by simp only[Option.some.injEq]at e;omega)).trans HSC1.out;have hbel:Below B w w2:=HB1.out.drew.grown HG.out (Nat.le_trans hBw HB1.out.size) (fun k hk=>by simp only[Option.some.injEq]at hk;omega);refine⟨rfl,⟨by rw[if_neg hqq];exact hcel,hoth.congr (fun u=>by rw[hq,Bool.false_and,Bool.or_false]),hset.congr (fun u=>by rw[hq1,Bool.true_and]),hn1,hn2,hn3⟩,hbel⟩
theorem ztk(B sb n m bi br:Nat)(I R:ByteArray→Bool)(q p:Int)(h s:ByteArray)(w:World)(hst:StAt w sb n m bi br I R)(hB1:B≤sb)(hB2:B≤bi)(hB3:B≤br)(hBw:B≤w.heap.size)(hn:n≤4611686018427387904)(hmn:m≤4611686018427387904)(hh:h.size≤maxLen)(hq:(q==0)=false)(hq1:(q==1)=false)(hq2:(q==2)=false)(hqq:¬ q=2) :
 Calls Tryz.prog 19 #[.pointer (some ⟨sb,0,none⟩),.agg #[.int .i64 q,.string h,.string s,.int .i64 p]] w (zgn B sb n m bi br I R q h w):=by
 obtain⟨hsc,hI,hR,hn1,hn2,hn3⟩:=hst;obtain⟨W0,hW0⟩:=nm (w.alloc (.cells #[.int .i64 q,.string h,.string s,.int .i64 p] 53));have hb0:Below w.heap.size w W0:=by rw[←hW0];exact(blr).alloc nlr _
 have hbox:W0.heap[w.heap.size]? =some (.cells #[.int .i64 q,.string h,.string s,.int .i64 p] 53 (0,0)):=by rw[←hW0];exact heap_alloc_new _ _
 have hsc0:=zr hb0 nlr hsc;have hsbl:=zn hsc;have hI0:=hI.kept hb0 nlr;have hR0:=hR.kept hb0 nlr;have hbil:=hI.lt;have hbrl:=hR.lt;obtain⟨c0,c1,c2,c3⟩:=zf hsc0;obtain⟨f0,f1,f2,f3⟩:=jr hsc0;obtain⟨b0,b1,b2,b3⟩:=zf hbox;have HB0:=Hq hb0;have HW0:=Hq hW0;have HSC0:=Hq hsc0;have HBOX:=Hq hbox;have HI0:=Hq hI0;have HR0:=Hq hR0;have HSC:=Hq hsc;have HI:=Hq hI;have HR:=Hq hR;clear hsc hI hR hb0 hsc0 hbox hI0 hR0;subst hW0;go_enter Tryz.func19,Tryz.ntmps19;go_wp2;go_end0;obtain⟨W1,hW1⟩:=nm ((w.setCell ⟨sb,0,none⟩ (.int .i64 ((n:Int)+1))).alloc (.cells #[.int .i64 q,.string h,.string s,.int .i64 p] 53));rw[hW1];have hsz:(w.setCell ⟨sb,0,none⟩ (.int .i64 ((n:Int)+1))).heap.size=w.heap.size:=by simp[World.setCell]
 have hsc1:kf W1 sb (n+1) m bi br:=by unfold kf;rw[←hW1,Below.heap_alloc _ _ _ (by rw[hsz];exact hsbl)];exact zl HSC.out _
 have hbox1:W1.heap[w.heap.size]? =some (.cells #[.int .i64 q,.string h,.string s,.int .i64 p] 53 (0,0)):=by rw[←hW1,←hsz];exact heap_alloc_new _ _
 have hI1:SetM W1 bi n I:=HI.out.of_block (by rw[←hW1,Below.heap_alloc _ _ _ (by rw[hsz];exact hbil),Below.heap_setCell _ _ _ _ (by simp;omega)]);have hR1:SetM W1 br n R:=HR.out.of_block (by rw[←hW1,Below.heap_alloc _ _ _ (by rw[hsz];exact hbrl),Below.heap_setCell _ _ _ _ (by simp;omega)]);have hb1:Below B w W1:=by rw[←hW1];exact((Below.refl B w).setCell (p:=⟨sb,0,none⟩) hB1 _).alloc (by rw[hsz];exact hBw) _
 clear c0 c1 c2 c3 f0 f1 f2 f3 b0 b1 b2 b3 HB0 HW0 HSC0 HBOX HI0 HR0 HSC HI HR hW1 hsz;exact⟨rfl,⟨by rw[if_neg hqq];exact hsc1,(hI1.mono (Nat.le_succ n)).congr (fun u=>by rw[hq,Bool.false_and,Bool.or_false]),(hR1.mono (Nat.le_succ n)).congr (fun u=>by rw[hq1,Bool.false_and,Bool.or_false]),hn1,hn2,hn3⟩,hb1⟩
theorem ztl(B sb n m bi br:Nat)(I R:ByteArray→Bool)(q p:Int)(h s:ByteArray)(w:World)(hst:StAt w sb n m bi br I R)(hB1:B≤sb)(hB2:B≤bi)(hB3:B≤br)(hBw:B≤w.heap.size)(hn:n≤4611686018427387904)(hmn:m≤4611686018427387904)(hh:h.size≤maxLen)(hq:(q==0)=false)(hq1:(q==1)=false)(hq2:(q==2)=true)(hqq:q=2) :
 Calls Tryz.prog 19 #[.pointer (some ⟨sb,0,none⟩),.agg #[.int .i64 q,.string h,.string s,.int .i64 p]] w (zgn B sb n m bi br I R q h w):=by
 have HQQ:=Hq hqq;clear hqq;obtain⟨hsc,hI,hR,hn1,hn2,hn3⟩:=hst;obtain⟨W0,hW0⟩:=nm (w.alloc (.cells #[.int .i64 q,.string h,.string s,.int .i64 p] 53));have hb0:Below w.heap.size w W0:=by rw[←hW0];exact(blr).alloc nlr _
 have hbox:W0.heap[w.heap.size]? =some (.cells #[.int .i64 q,.string h,.string s,.int .i64 p] 53 (0,0)):=by rw[←hW0];exact heap_alloc_new _ _
 have hsc0:=zr hb0 nlr hsc;have hsbl:=zn hsc;have hI0:=hI.kept hb0 nlr;have hR0:=hR.kept hb0 nlr;have hbil:=hI.lt;have hbrl:=hR.lt;obtain⟨c0,c1,c2,c3⟩:=zf hsc0;obtain⟨f0,f1,f2,f3⟩:=jr hsc0;obtain⟨b0,b1,b2,b3⟩:=zf hbox;have HB0:=Hq hb0;have HW0:=Hq hW0;have HSC0:=Hq hsc0;have HBOX:=Hq hbox;have HI0:=Hq hI0;have HR0:=Hq hR0;have HSC:=Hq hsc;have HI:=Hq hI;have HR:=Hq hR;clear hsc hI hR hb0 hsc0 hbox hI0 hR0;subst hW0;go_enter Tryz.func19,Tryz.ntmps19;have hsz:(w.setCell ⟨sb,0,none⟩ (.int .i64 ((n:Int)+1))).heap.size=w.heap.size:=by simp[World.setCell]
 have hV:kf ((w.setCell ⟨sb,0,none⟩ (.int .i64 ((n:Int)+1))).alloc (.cells #[.int .i64 q,.string h,.string s,.int .i64 p] 53)) sb (n+1) m bi br:=by unfold kf;rw[Below.heap_alloc _ _ _ (by rw[hsz];exact hsbl)];exact zl HSC.out _
 obtain⟨g0,g1,g2,g3⟩:=zf hV;obtain⟨k0,k1,k2,k3⟩:=jr hV;have HSZ:=Hq hsz;clear hsz hV g0 g2 g3 k0 k2 k3;go_wp2;go_end0;obtain⟨W2,hW2⟩:=nm ((((w.setCell ⟨sb,0,none⟩ (.int .i64 ((n:Int)+1))).setCell ⟨sb,1,none⟩ (.int .i64 ((m:Int)+1))).alloc (.cells #[.int .i64 q,.string h,.string s,.int .i64 p] 53)));rw[hW2];have hsz:((w.setCell ⟨sb,0,none⟩ (.int .i64 ((n:Int)+1))).setCell ⟨sb,1,none⟩ (.int .i64 ((m:Int)+1))).heap.size=w.heap.size:=by simp[World.setCell]
 have hsc2:kf W2 sb (n+1) (m+1) bi br:=by unfold kf;rw[←hW2,Below.heap_alloc _ _ _ (by rw[hsz];exact hsbl)];exact zl (zl HSC.out _) _
 have hI2:SetM W2 bi n I:=HI.out.of_block (by rw[←hW2,Below.heap_alloc _ _ _ (by rw[hsz];exact hbil),Below.heap_setCell _ _ _ _ (by simp;omega),Below.heap_setCell _ _ _ _ (by simp;omega)]);have hR2:SetM W2 br n R:=HR.out.of_block (by rw[←hW2,Below.heap_alloc _ _ _ (by rw[hsz];exact hbrl),Below.heap_setCell _ _ _ _ (by simp;omega),Below.heap_setCell _ _ _ _ (by simp;omega)]);have hb2:Below B w W2:=by rw[←hW2];exact(((Below.refl B w).setCell (p:=⟨sb,0,none⟩) hB1 _).setCell (p:=⟨sb,1,none⟩) hB1 _).alloc (by rw[hsz];exact hBw) _
 exact⟨rfl,⟨by rw[if_pos HQQ.out];exact hsc2,(hI2.mono (Nat.le_succ n)).congr (fun u=>by rw[hq,Bool.false_and,Bool.or_false]),(hR2.mono (Nat.le_succ n)).congr (fun u=>by rw[hq1,Bool.false_and,Bool.or_false]),hn1,hn2,hn3⟩,hb2⟩
theorem zvn(B sb n m bi br:Nat)(I R:ByteArray→Bool)(e:En)(w:World)(hst:StAt w sb n m bi br I R)(hB1:B≤sb)(hB2:B≤bi)(hB3:B≤br)(hBw:B≤w.heap.size)(hn:n≤4611686018427387904)(hmn:m≤4611686018427387904)(hh:e.handle.size≤maxLen) :
 Calls Tryz.prog 19 #[.pointer (some ⟨sb,0,none⟩),e.val] w (zgn B sb n m bi br I R e.kind e.handle w):=by
 obtain⟨q,h,s,p⟩:=e;by_cases k0:q=0
 · exact ztn B sb n m bi br I R q p h s w hst hB1 hB2 hB3 hBw hn hmn hh (eqI k0) (neI (by omega)) (neI (by omega)) (by omega)
 · by_cases k1:q=1
   · exact ztm B sb n m bi br I R q p h s w hst hB1 hB2 hB3 hBw hn hmn hh (neI k0) (eqI k1) (neI (by omega)) (by omega)
   · by_cases k2:q=2
     · exact ztl B sb n m bi br I R q p h s w hst hB1 hB2 hB3 hBw hn hmn hh (neI k0) (neI k1) (eqI k2) k2
     · exact ztk B sb n m bi br I R q p h s w hst hB1 hB2 hB3 hBw hn hmn hh (neI k0) (neI k1) (neI k2) k2
end Go.Proofs.YtppbcopnfankcaaGreat
