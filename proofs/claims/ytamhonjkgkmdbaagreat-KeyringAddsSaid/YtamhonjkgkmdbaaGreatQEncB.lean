import Derived.Test.YtamhonjkgkmdbaaGreatQKyO
import Derived.Test.YtamhonjkgkmdbaaGreatQIt
import Derived.Test.YtamhonjkgkmdbaaGreatRows
import Derived.Deep.RegionLaw
import Derived.Deep.AppendLies
import Derived.Test.YtamhonjkgkmdbaaGreatQGsh
set_option linter.unusedVariables false
set_option linter.unusedSimpArgs false
namespace Go.Proofs.YtamhonjkgkmdbaaGreat
set_option maxRecDepth 100000
set_option maxHeartbeats 4000000
open Go.RowKit
def RetAll(l:List Ver)(w:World)(e:Ending)(w':World):Prop:=∃ rv vs,e=.returned rv∧w'.ownsRow w.heap.size 36 18 rv l.length vs∧VRowO w' rv.ownBlock w.heap.size vs l∧Below w.heap.size w w'
theorem ky_all(l:List Ver)(A:Option Addr)(len cap:Nat)(w:World)(hs:SlV w A len cap l)(hlen:len≤4096)(hfw:FwV l):Calls Tryz.prog 19 #[.slice A len cap] w (RetAll l w):=by
 have HS:=Hq hs;have HLEN:=Hq hs.1;have HFW:=Hq hfw;have hcap:=hs.2.1;have hcap2:=hs.2.2.1;clear hs hfw;go_enter Tryz.func19,Tryz.ntmps19;go_wp2;go_loopw [3,8] (fun s i wr=>∃(j:Nat) (vs:List Value),j≤len∧i=.int .i64 j∧wr.ownsRow w.heap.size 36 18 s j vs∧VRowO wr s.ownBlock w.heap.size vs (l.take j)∧Below w.heap.size w wr) (fun _ i _=>len - (intOf i).toNat);case atStart=>exact⟨0,[],Nat.zero_le _,rfl,World.ownsRow_nil _ _ _ _,rfl,Below.refl _ _⟩
 case round =>
  obtain⟨j,vs,hj,rfl,hown,hvr,hbb⟩:=hrel;have HB:=Hq hbb;have HOWN:=Hq hown;have HVR:=Hq hvr;have HSR:=Hq (HS.out.kept hbb (Nat.le_refl _));clear hbb hown hvr;by_cases hlt:j<len
  · obtain⟨b,o,rfl⟩:=HS.out.head (by omega);obtain⟨v,he⟩:∃ v,l[j]? =some v:=⟨_,List.getElem?_eq_getElem (by rw[HLEN.out];exact hlt)⟩;obtain⟨A1,n1,c1,hvc,hsl⟩:=HSR.out.get? j he;have HSL:=Hq hsl;have HE:=Hq he;have HRA:=Hq (show wr.rangeAt b (o+j * 18) (v.vals (.slice A1 n1 c1))from hvc);have HSZ:=Hq (show (Tryz.prog.info? 36).map (·.size)=some (v.vals (.slice A1 n1 c1)).length from by kernel_rfl);have HON:=Hq (v.arr_one (A:=A1) (n:=n1) (c:=c1));obtain⟨cs,hcs⟩:∃ cs,v.arr (.slice A1 n1 c1)=cs:=⟨_,rfl⟩;have HCS:=Hq (show cs.size=18 from by rw[←hcs];rfl);have hva:(v.vals (.slice A1 n1 c1)).toArray=cs:=hcs;rw[hcs]at HON;have HVA:=Hq hcs;clear hvc he hcs hsl;go_upto_region 4 with fail
    refine wp_region_lit ?_;iterate 3 go_step
    refine wpList_load_mid rfl 36 _ rfl b (o+j * 18) rfl _ _ HRA.out Tryz.underlying36 rfl HSZ.out ?_;rw[hva];clear hva;refine Great.wpList_allocTo rfl _ rfl (.pointer (some ⟨wr.heap.size,0,none⟩)) (.cells (ver0.arr (.slice none 0 0)) 36) (by kernel_rfl) ?_;refine wpList_store_rowTo rfl 36 _ _ rfl rfl wr.heap.size cs rfl rfl 36 (ver0.arr (.slice none 0 0)) (BxC.new wr _ _) (by rw[HCS.out];kernel_rfl) (by rw[HCS.out];rfl) HON.out ?_;have HX:=Hq (box_row wr (ver0.arr (.slice none 0 0)) cs 36);have HW:=Hq (box_below wr (ver0.arr (.slice none 0 0)) cs 36);obtain⟨w2,hw2⟩:∃ w2,(wr.alloc (.cells (ver0.arr (.slice none 0 0)) 36)).setRow wr.heap.size cs=w2:=⟨_,rfl⟩;rw[hw2]at HX HW⊢;clear hw2;have HCO:=Hq (show Calls Tryz.prog 20 #[.agg cs] w2 (RetVV v w2)from by
     rw[←HVA.out]
     exact ky_copied v A1 n1 c1 w2 (HSL.out.kept HW.out (Nat.le_refl _)) (by rw[←HSL.out.1];exact HFW.out j v HE.out))
    go_upto_region 5 with fail
    refine wp_region_lit ?_;iterate 3 go_step
    refine wpList_load_row rfl 36 _ rfl wr.heap.size rfl 36 cs (0,0) _ HX.out Tryz.underlying36 rfl (by rw[HCS.out];kernel_rfl) ?_;go_wp2_with fail;refine HCO.out.mono ?_;rintro ev w3 ⟨A2,n2,c2,rfl,⟨B2,hB2,hown2⟩,hb3⟩;have hww:wr.heap.size≤w2.heap.size:=HW.out.size;have HB3:=Hq (HW.out.trans (hb3.mono hww));have HBB3:=Hq (HB.out.trans (HB3.out.mono HB.out.size));have HO3:=Hq ((owns_kept HOWN.out HB3.out (Nat.le_refl _)).alloc (.cells (v.arr (.slice A2 n2 c2)) 36));have HLT:=Hq (fun k (e:u3.ownBlock=some k)=>(HOWN.out.lt k e).2);obtain⟨hl4,A4,c4,e4,hs4⟩:=SlN.of_owns hown2;cases e4;have HSO:=Hq (show SlO w3 u3.ownBlock w.heap.size A2 n2 c2 v.kr from⟨hs4,fun hn a e=>by
     have h2:=(hown2.lt a.block (by rw[e];rfl)).1;have h3:=HB.out.size
     exact⟨fun h=>by have h1:=HLT.out _ h;omega,by omega⟩⟩)
    have HVR3:=Hq (show VRowO (w3.alloc (.cells (v.arr (.slice A2 n2 c2)) 36)) u3.ownBlock w.heap.size (vs++v.vals (.slice A2 n2 c2)) (l.take (j+1))from by
     rw[List.take_add_one,HE.out,Option.toList_some]
     exact VRowO.kept ((Below.refl _ _).alloc (Nat.le_refl _) _) (Nat.le_refl _) ((HVR.out.kept HB3.out (Nat.le_refl _)).snoc HSO.out))
    clear hb3 hown2 hs4 hl4 hB2 hww;rw[show v.val (.slice A2 n2 c2)=.agg (v.arr (.slice A2 n2 c2))from rfl];dsimp only;iterate 1 go_step
    refine wpList_build_ver rfl _ rfl v A2 n2 c2 rfl ?_;obtain⟨i0,hi,iz0,iz1,iz2⟩:=info_parts ver_info;refine wpList_append_lies _ rfl (.tmp 12) (.tmp 15) 29 rfl w.heap.size 36 i0 _ 18 272 Tryz.underlying29 hi iz0 iz1 iz2 rfl (by decide) u3 j vs rfl HO3.out ⟨w3.heap.size,0,none⟩ 1 1 (v.vals (.slice A2 n2 c2)) rfl rfl (World.news_of_block (heap_alloc_new w3 (.cells (v.arr (.slice A2 n2 c2)) 36))) v.one (by decide) (by unfold maxLen;omega) (by omega) (by have:=HBB3.out.size;simp;omega) _ rfl ?_;intro g cap7 w7 hown7 hgrow7 hat7 hlt7;have HO7:=Hq hown7;have HVR7:=Hq (HVR3.out.grow hgrow7 hat7);have HB7:=Hq ((HBB3.out.alloc HBB3.out.size _).grown hgrow7 (by have:=HBB3.out.size;simp;omega) (fun k hk=>(HO3.out.lt k hk).1));clear hown7 hgrow7 hat7 hlt7 hi iz0 iz1 iz2;go_wp2;go_roundw;case rel=>exact⟨j+1,_,by omega,by go_num,HO7.out,HVR7.out,HB7.out⟩
    case measure=>simp[intOf];omega
  · obtain rfl:j=len:=by omega
    have HO:=Hq (show wr.ownsRow w.heap.size 36 18 u3 l.length vs from by rw[HLEN.out];exact HOWN.out);have HV:=Hq (show VRowO wr u3.ownBlock w.heap.size vs l from by have:=HVR.out;rw[←HLEN.out,List.take_length]at this;exact this);clear hlt hj;go_wp2;go_ret;exact⟨u3,vs,rfl,HO.out,HV.out,HB.out⟩
set_option maxRecDepth 100000
set_option maxHeartbeats 4000000
def kletB(c:Int):Bool:=decide (97≤c)&&decide (c≤122)||decide (65≤c)&&decide (c≤90)
def kgoodB(i:Nat)(c:Int):Bool:=kletB c||(decide (i≠0)&&(decide (c=95)||(decide (48≤c)&&decide (c≤57))))
def kbyte(s:ByteArray)(k:Nat):Int:=((s.data.toList.getD k 0).toNat:Int)
theorem kbyte_get(s:ByteArray)(k:Nat)(h:k<s.size):kbyte s k=(s[k].toNat:Int):=by unfold kbyte;rw[data_getD s k h]
def knameB(s:ByteArray):Bool:=((List.range s.size).all fun i=>kgoodB i (kbyte s i))&&(decide (s.size≠0)&&decide (s.size≤32))
theorem kname_no{s:ByteArray}{k:Nat}(hk:k<s.size)(h:kgoodB k (kbyte s k)=false):knameB s=false:=by
 have : ((List.range s.size).all fun i=>kgoodB i (kbyte s i))=false:=(by rw[List.all_eq_false];exact⟨k,List.mem_range.2 hk,by simp[h]⟩);unfold knameB;rw[this];rfl
theorem kname_end{s:ByteArray}(h:∀ j,j<s.size→kgoodB j (kbyte s j)=true):knameB s=(decide (s.size≠0)&&decide (s.size≤32)):=by
 have : ((List.range s.size).all fun i=>kgoodB i (kbyte s i))=true:=(by rw[List.all_eq_true];intro i hi;exact h i (List.mem_range.1 hi));unfold knameB;rw[this,Bool.true_and]
theorem kcases(c:Int):(97≤c∧c≤122)∨(65≤c∧c≤90)∨122<c∨(90<c∧c<97)∨c<65:=by omega
theorem ky_isName(s:ByteArray)(w:World)(hs:s.size≤9223372036854775807):Calls Tryz.prog 36 #[.string s] w (RetQ (.bool (knameB s)) w):=by
 go_enter Tryz.func36,Tryz.ntmps36;go_wp2
 go_loop [8] (fun i=>∃ k:Nat,k≤s.size∧i=.int .i64 k∧∀ j,j<k→kgoodB j (kbyte s j)=true) (fun i=>s.size - (intOf i).toNat)
 case atStart=>exact⟨0,Nat.zero_le _,rfl,fun j hj=>absurd hj (by omega)⟩
 case round =>
  obtain⟨k,hk,rfl,hall⟩:=hrel;have HALL:=Hq hall;clear hall;by_cases hlt:k<s.size
  · have hkb:=kbyte_get s k hlt;have hcb:0≤kbyte s k:=by rw[hkb];omega
    obtain⟨c,hc⟩:∃ c:Int,(s[k].toNat:Int)=c:=⟨_,rfl⟩;rw[hc]at hkb;have HKB:=Hq hkb;rw[hkb]at hcb;have hmk:∀ b,kgoodB k c=b→kgoodB k (kbyte s k)=b:=fun b h=>by rw[HKB.out];exact h
    clear hkb;rcases kcases c with⟨c1,c2⟩ | ⟨c1,c2⟩ | c1 | ⟨c1,c2⟩ | c1
    · skip;have e0:(97≤c)=True:=eq_true (by omega);have e1:(c≤122)=True:=eq_true (by omega);have e2:(65≤c)=True:=eq_true (by omega);have e3:(c≤90)=False:=eq_false (by omega);have e4:(c<48)=False:=eq_false (by omega);have e5:(57<c)=True:=eq_true (by omega);have HG:=Hq (hmk true (by simp[kgoodB,kletB];omega));clear hmk hcb c1 c2;go_wp2;go_round;case rel=>exact⟨k+1,by omega,by go_num,fun j hj=>(by rcases Nat.lt_succ_iff_lt_or_eq.1 hj with h | h;exact HALL.out j h;subst h;exact HG.out)⟩
      case measure=>simp[intOf];omega
    · skip;have e0:(97≤c)=False:=eq_false (by omega);have e1:(c≤122)=True:=eq_true (by omega);have e2:(65≤c)=True:=eq_true (by omega);have e3:(c≤90)=True:=eq_true (by omega);have e4:(c<48)=False:=eq_false (by omega);have e5:(57<c)=True:=eq_true (by omega);have HG:=Hq (hmk true (by simp[kgoodB,kletB];omega));clear hmk hcb c1 c2;go_wp2;go_round;case rel=>exact⟨k+1,by omega,by go_num,fun j hj=>(by rcases Nat.lt_succ_iff_lt_or_eq.1 hj with h | h;exact HALL.out j h;subst h;exact HG.out)⟩
      case measure=>simp[intOf];omega
    · skip;by_cases hk0:k=0
      · subst hk0;have e0:(97≤c)=True:=eq_true (by omega);have e1:(c≤122)=False:=eq_false (by omega);have e2:(65≤c)=True:=eq_true (by omega);have e3:(c≤90)=False:=eq_false (by omega);have e4:(c<48)=False:=eq_false (by omega);have e5:(57<c)=True:=eq_true (by omega);have e8:(c != 95)=true:=by simp;omega
        have HG:=Hq (hmk false (by simp[kgoodB,kletB];omega));clear hmk hcb c1;have HF:=Hq (kname_no hlt HG.out);go_wp2;go_ret;exact⟨by rw[HF.out];rfl,rfl⟩
      · skip;have e0:(97≤c)=True:=eq_true (by omega);have e1:(c≤122)=False:=eq_false (by omega);have e2:(65≤c)=True:=eq_true (by omega);have e3:(c≤90)=False:=eq_false (by omega);have e4:(c<48)=False:=eq_false (by omega);have e5:(57<c)=True:=eq_true (by omega);have e8:(c != 95)=true:=by simp;omega
        have e9:((k:Int)==0)=false:=by simp;omega
        have HG:=Hq (hmk false (by simp[kgoodB,kletB];omega));clear hmk hcb c1 hk0;have HF:=Hq (kname_no hlt HG.out);go_wp2;go_ret;exact⟨by rw[HF.out];rfl,rfl⟩
    · skip;by_cases hk0:k=0
      · subst hk0;have e0:(97≤c)=False:=eq_false (by omega);have e1:(c≤122)=True:=eq_true (by omega);have e2:(65≤c)=True:=eq_true (by omega);have e3:(c≤90)=False:=eq_false (by omega);have e4:(c<48)=False:=eq_false (by omega);have e5:(57<c)=True:=eq_true (by omega);have HG:=Hq (hmk false (by simp[kgoodB,kletB];omega));clear hmk hcb c1 c2;have HF:=Hq (kname_no hlt HG.out);go_wp2;go_ret;exact⟨by rw[HF.out];rfl,rfl⟩
      · skip;by_cases c3:c=95
        · skip;have e0:(97≤c)=False:=eq_false (by omega);have e1:(c≤122)=True:=eq_true (by omega);have e2:(65≤c)=True:=eq_true (by omega);have e3:(c≤90)=False:=eq_false (by omega);have e4:(c<48)=False:=eq_false (by omega);have e5:(57<c)=True:=eq_true (by omega);have e8:(c != 95)=false:=by simp;omega
          have e9:((k:Int)==0)=false:=by simp;omega
          have HG:=Hq (hmk true (by simp[kgoodB,kletB];omega));clear hmk hcb c1 c2 c3 hk0;go_wp2;go_round;case rel=>exact⟨k+1,by omega,by go_num,fun j hj=>(by rcases Nat.lt_succ_iff_lt_or_eq.1 hj with h | h;exact HALL.out j h;subst h;exact HG.out)⟩
          case measure=>simp[intOf];omega
        · skip;have e0:(97≤c)=False:=eq_false (by omega);have e1:(c≤122)=True:=eq_true (by omega);have e2:(65≤c)=True:=eq_true (by omega);have e3:(c≤90)=False:=eq_false (by omega);have e4:(c<48)=False:=eq_false (by omega);have e5:(57<c)=True:=eq_true (by omega);have e8:(c != 95)=true:=by simp;omega
          have e9:((k:Int)==0)=false:=by simp;omega
          have HG:=Hq (hmk false (by simp[kgoodB,kletB];omega));clear hmk hcb c1 c2 c3 hk0;have HF:=Hq (kname_no hlt HG.out);go_wp2;go_ret;exact⟨by rw[HF.out];rfl,rfl⟩
    · skip;by_cases hk0:k=0
      · subst hk0;have e0:(97≤c)=False:=eq_false (by omega);have e1:(c≤122)=True:=eq_true (by omega);have e2:(65≤c)=False:=eq_false (by omega);have e3:(c≤90)=True:=eq_true (by omega);have e8:(c != 95)=true:=by simp;omega
        have HG:=Hq (hmk false (by simp[kgoodB,kletB];omega));clear hmk hcb c1;have HF:=Hq (kname_no hlt HG.out);go_wp2;go_ret;exact⟨by rw[HF.out];rfl,rfl⟩
      · skip;by_cases c3:c<48
        · skip;have e0:(97≤c)=False:=eq_false (by omega);have e1:(c≤122)=True:=eq_true (by omega);have e2:(65≤c)=False:=eq_false (by omega);have e3:(c≤90)=True:=eq_true (by omega);have e4:(c<48)=True:=eq_true (by omega);have e5:(57<c)=False:=eq_false (by omega);have e8:(c != 95)=true:=by simp;omega
          have e9:((k:Int)==0)=false:=by simp;omega
          have HG:=Hq (hmk false (by simp[kgoodB,kletB];omega));clear hmk hcb c1 c3 hk0;have HF:=Hq (kname_no hlt HG.out);go_wp2;go_ret;exact⟨by rw[HF.out];rfl,rfl⟩
        · by_cases c4:c≤57
          · skip;have e0:(97≤c)=False:=eq_false (by omega);have e1:(c≤122)=True:=eq_true (by omega);have e2:(65≤c)=False:=eq_false (by omega);have e3:(c≤90)=True:=eq_true (by omega);have e4:(c<48)=False:=eq_false (by omega);have e5:(57<c)=False:=eq_false (by omega);have e8:(c != 95)=true:=by simp;omega
            have e9:((k:Int)==0)=false:=by simp;omega
            have HG:=Hq (hmk true (by simp[kgoodB,kletB];omega));clear hmk hcb c1 c3 c4 hk0;go_wp2;go_round;case rel=>exact⟨k+1,by omega,by go_num,fun j hj=>(by rcases Nat.lt_succ_iff_lt_or_eq.1 hj with h | h;exact HALL.out j h;subst h;exact HG.out)⟩
            case measure=>simp[intOf];omega
          · skip;have e0:(97≤c)=False:=eq_false (by omega);have e1:(c≤122)=True:=eq_true (by omega);have e2:(65≤c)=False:=eq_false (by omega);have e3:(c≤90)=True:=eq_true (by omega);have e4:(c<48)=False:=eq_false (by omega);have e5:(57<c)=True:=eq_true (by omega);have e8:(c != 95)=true:=by simp;omega
            have e9:((k:Int)==0)=false:=by simp;omega
            have HG:=Hq (hmk false (by simp[kgoodB,kletB];omega));clear hmk hcb c1 c3 c4 hk0;have HF:=Hq (kname_no hlt HG.out);go_wp2;go_ret;exact⟨by rw[HF.out];rfl,rfl⟩
  · obtain rfl:k=s.size:=by omega
    have HE:=Hq (kname_end HALL.out);clear hlt hk;by_cases h0:s.size=0
    · have e0:=sempty_true h0;have HF:=Hq (show knameB s=false from by rw[HE.out,decide_eq_false (show ¬ s.size≠0 by simp[h0])];rfl);clear h0;go_wp2;go_ret;exact⟨by rw[HF.out];rfl,rfl⟩
    · have e0:=sempty_false (show 0<s.size by omega);by_cases h1:s.size≤32
      · have HF:=Hq (show knameB s=true from by rw[HE.out,decide_eq_true h0,decide_eq_true h1];rfl);have hd:decide ((s.size:Int)≤32)=true:=decide_eq_true (by omega);clear h0;go_wp2;go_ret;exact⟨by rw[HF.out];rfl,rfl⟩
      · have HF:=Hq (show knameB s=false from by rw[HE.out,decide_eq_false h1,Bool.and_false]);have hd:decide ((s.size:Int)≤32)=false:=decide_eq_false (by omega);clear h0;go_wp2;go_ret;exact⟨by rw[HF.out];rfl,rfl⟩
theorem r29_Name(s:ByteArray)(w:World)(hs:s.size≤9223372036854775807):Calls Tryz.prog 49 #[.string s] w (RetQ (.bool (knameB s)) w):=by
 go_enter Tryz.func49,Tryz.ntmps49;go_wp2
 go_loop [3] (fun i=>∃ k:Nat,k≤s.size∧i=.int .i64 k∧∀ j,j<k→kgoodB j (kbyte s j)=true) (fun i=>s.size - (intOf i).toNat)
 case atStart=>exact⟨0,Nat.zero_le _,rfl,fun j hj=>absurd hj (by omega)⟩
 case round =>
  obtain⟨k,hk,rfl,hall⟩:=hrel;have HALL:=Hq hall;clear hall;by_cases hlt:k<s.size
  · have hkb:=kbyte_get s k hlt;have hcb:0≤kbyte s k:=by rw[hkb];omega
    obtain⟨c,hc⟩:∃ c:Int,(s[k].toNat:Int)=c:=⟨_,rfl⟩;rw[hc]at hkb;have HKB:=Hq hkb;rw[hkb]at hcb;have hmk:∀ b,kgoodB k c=b→kgoodB k (kbyte s k)=b:=fun b h=>by rw[HKB.out];exact h
    clear hkb;rcases kcases c with⟨c1,c2⟩ | ⟨c1,c2⟩ | c1 | ⟨c1,c2⟩ | c1
    · skip;have e0:(97≤c)=True:=eq_true (by omega);have e1:(c≤122)=True:=eq_true (by omega);have e2:(65≤c)=True:=eq_true (by omega);have e3:(c≤90)=False:=eq_false (by omega);have e4:(c<48)=False:=eq_false (by omega);have e5:(57<c)=True:=eq_true (by omega);have HG:=Hq (hmk true (by simp[kgoodB,kletB];omega));clear hmk hcb c1 c2;go_wp2;go_round;case rel=>exact⟨k+1,by omega,by go_num,fun j hj=>(by rcases Nat.lt_succ_iff_lt_or_eq.1 hj with h | h;exact HALL.out j h;subst h;exact HG.out)⟩
      case measure=>simp[intOf];omega
    · skip;have e0:(97≤c)=False:=eq_false (by omega);have e1:(c≤122)=True:=eq_true (by omega);have e2:(65≤c)=True:=eq_true (by omega);have e3:(c≤90)=True:=eq_true (by omega);have e4:(c<48)=False:=eq_false (by omega);have e5:(57<c)=True:=eq_true (by omega);have HG:=Hq (hmk true (by simp[kgoodB,kletB];omega));clear hmk hcb c1 c2;go_wp2;go_round;case rel=>exact⟨k+1,by omega,by go_num,fun j hj=>(by rcases Nat.lt_succ_iff_lt_or_eq.1 hj with h | h;exact HALL.out j h;subst h;exact HG.out)⟩
      case measure=>simp[intOf];omega
    · skip;by_cases hk0:k=0
      · subst hk0;have e0:(97≤c)=True:=eq_true (by omega);have e1:(c≤122)=False:=eq_false (by omega);have e2:(65≤c)=True:=eq_true (by omega);have e3:(c≤90)=False:=eq_false (by omega);have e4:(c<48)=False:=eq_false (by omega);have e5:(57<c)=True:=eq_true (by omega);have e8:(c != 95)=true:=by simp;omega
        have HG:=Hq (hmk false (by simp[kgoodB,kletB];omega));clear hmk hcb c1;have HF:=Hq (kname_no hlt HG.out);go_wp2;go_ret;exact⟨by rw[HF.out];rfl,rfl⟩
      · skip;have e0:(97≤c)=True:=eq_true (by omega);have e1:(c≤122)=False:=eq_false (by omega);have e2:(65≤c)=True:=eq_true (by omega);have e3:(c≤90)=False:=eq_false (by omega);have e4:(c<48)=False:=eq_false (by omega);have e5:(57<c)=True:=eq_true (by omega);have e8:(c != 95)=true:=by simp;omega
        have e9:((k:Int)==0)=false:=by simp;omega
        have HG:=Hq (hmk false (by simp[kgoodB,kletB];omega));clear hmk hcb c1 hk0;have HF:=Hq (kname_no hlt HG.out);go_wp2;go_ret;exact⟨by rw[HF.out];rfl,rfl⟩
    · skip;by_cases hk0:k=0
      · subst hk0;have e0:(97≤c)=False:=eq_false (by omega);have e1:(c≤122)=True:=eq_true (by omega);have e2:(65≤c)=True:=eq_true (by omega);have e3:(c≤90)=False:=eq_false (by omega);have e4:(c<48)=False:=eq_false (by omega);have e5:(57<c)=True:=eq_true (by omega);have HG:=Hq (hmk false (by simp[kgoodB,kletB];omega));clear hmk hcb c1 c2;have HF:=Hq (kname_no hlt HG.out);go_wp2;go_ret;exact⟨by rw[HF.out];rfl,rfl⟩
      · skip;by_cases c3:c=95
        · skip;have e0:(97≤c)=False:=eq_false (by omega);have e1:(c≤122)=True:=eq_true (by omega);have e2:(65≤c)=True:=eq_true (by omega);have e3:(c≤90)=False:=eq_false (by omega);have e4:(c<48)=False:=eq_false (by omega);have e5:(57<c)=True:=eq_true (by omega);have e8:(c != 95)=false:=by simp;omega
          have e9:((k:Int)==0)=false:=by simp;omega
          have HG:=Hq (hmk true (by simp[kgoodB,kletB];omega));clear hmk hcb c1 c2 c3 hk0;go_wp2;go_round;case rel=>exact⟨k+1,by omega,by go_num,fun j hj=>(by rcases Nat.lt_succ_iff_lt_or_eq.1 hj with h | h;exact HALL.out j h;subst h;exact HG.out)⟩
          case measure=>simp[intOf];omega
        · skip;have e0:(97≤c)=False:=eq_false (by omega);have e1:(c≤122)=True:=eq_true (by omega);have e2:(65≤c)=True:=eq_true (by omega);have e3:(c≤90)=False:=eq_false (by omega);have e4:(c<48)=False:=eq_false (by omega);have e5:(57<c)=True:=eq_true (by omega);have e8:(c != 95)=true:=by simp;omega
          have e9:((k:Int)==0)=false:=by simp;omega
          have HG:=Hq (hmk false (by simp[kgoodB,kletB];omega));clear hmk hcb c1 c2 c3 hk0;have HF:=Hq (kname_no hlt HG.out);go_wp2;go_ret;exact⟨by rw[HF.out];rfl,rfl⟩
    · skip;by_cases hk0:k=0
      · subst hk0;have e0:(97≤c)=False:=eq_false (by omega);have e1:(c≤122)=True:=eq_true (by omega);have e2:(65≤c)=False:=eq_false (by omega);have e3:(c≤90)=True:=eq_true (by omega);have e8:(c != 95)=true:=by simp;omega
        have HG:=Hq (hmk false (by simp[kgoodB,kletB];omega));clear hmk hcb c1;have HF:=Hq (kname_no hlt HG.out);go_wp2;go_ret;exact⟨by rw[HF.out];rfl,rfl⟩
      · skip;by_cases c3:c<48
        · skip;have e0:(97≤c)=False:=eq_false (by omega);have e1:(c≤122)=True:=eq_true (by omega);have e2:(65≤c)=False:=eq_false (by omega);have e3:(c≤90)=True:=eq_true (by omega);have e4:(c<48)=True:=eq_true (by omega);have e5:(57<c)=False:=eq_false (by omega);have e8:(c != 95)=true:=by simp;omega
          have e9:((k:Int)==0)=false:=by simp;omega
          have HG:=Hq (hmk false (by simp[kgoodB,kletB];omega));clear hmk hcb c1 c3 hk0;have HF:=Hq (kname_no hlt HG.out);go_wp2;go_ret;exact⟨by rw[HF.out];rfl,rfl⟩
        · by_cases c4:c≤57
          · skip;have e0:(97≤c)=False:=eq_false (by omega);have e1:(c≤122)=True:=eq_true (by omega);have e2:(65≤c)=False:=eq_false (by omega);have e3:(c≤90)=True:=eq_true (by omega);have e4:(c<48)=False:=eq_false (by omega);have e5:(57<c)=False:=eq_false (by omega);have e8:(c != 95)=true:=by simp;omega
            have e9:((k:Int)==0)=false:=by simp;omega
            have HG:=Hq (hmk true (by simp[kgoodB,kletB];omega));clear hmk hcb c1 c3 c4 hk0;go_wp2;go_round;case rel=>exact⟨k+1,by omega,by go_num,fun j hj=>(by rcases Nat.lt_succ_iff_lt_or_eq.1 hj with h | h;exact HALL.out j h;subst h;exact HG.out)⟩
            case measure=>simp[intOf];omega
          · skip;have e0:(97≤c)=False:=eq_false (by omega);have e1:(c≤122)=True:=eq_true (by omega);have e2:(65≤c)=False:=eq_false (by omega);have e3:(c≤90)=True:=eq_true (by omega);have e4:(c<48)=False:=eq_false (by omega);have e5:(57<c)=True:=eq_true (by omega);have e8:(c != 95)=true:=by simp;omega
            have e9:((k:Int)==0)=false:=by simp;omega
            have HG:=Hq (hmk false (by simp[kgoodB,kletB];omega));clear hmk hcb c1 c3 c4 hk0;have HF:=Hq (kname_no hlt HG.out);go_wp2;go_ret;exact⟨by rw[HF.out];rfl,rfl⟩
  · obtain rfl:k=s.size:=by omega
    have HE:=Hq (kname_end HALL.out);clear hlt hk;by_cases h0:s.size=0
    · have e0:=sempty_true h0;have HF:=Hq (show knameB s=false from by rw[HE.out,decide_eq_false (show ¬ s.size≠0 by simp[h0])];rfl);clear h0;go_wp2;go_ret;exact⟨by rw[HF.out];rfl,rfl⟩
    · have e0:=sempty_false (show 0<s.size by omega);by_cases h1:s.size≤32
      · have HF:=Hq (show knameB s=true from by rw[HE.out,decide_eq_true h0,decide_eq_true h1];rfl);have hd:decide ((s.size:Int)≤32)=true:=decide_eq_true (by omega);clear h0;go_wp2;go_ret;exact⟨by rw[HF.out];rfl,rfl⟩
      · have HF:=Hq (show knameB s=false from by rw[HE.out,decide_eq_false h1,Bool.and_false]);have hd:decide ((s.size:Int)≤32)=false:=decide_eq_false (by omega);clear h0;go_wp2;go_ret;exact⟨by rw[HF.out];rfl,rfl⟩
set_option maxRecDepth 100000
set_option maxHeartbeats 1000000
theorem item_info:(Tryz.prog.info? 83).map (fun i=>(i.zero,i.size,i.bytes))=some (some (.agg #[.int .i64 0,.string ⟨#[]⟩,.string ⟨#[]⟩,.slice none 0 0]),4,64):=by kernel_rfl
def CpRel(w:World)(R B:Nat)(k0:Int)(n0 t0:ByteArray)(l:List It)(i:Value)(wr:World):Prop:=
 ∃(k:Nat) (A:Option Addr) (cap:Nat) (vs:List Value),k≤l.length∧i=.int .i64 k∧wr.heap[B]? =some (.cells #[.int .i64 k0,.string n0,.string t0,.slice A k cap] 83 (0,0)) ∧
  wr.heap[R]? =some (.cells #[.int .i64 0,.string ⟨#[]⟩,.string ⟨#[]⟩,.slice none 0 0] 83 (0,0)) ∧
  wr.ownsRow (B+1) 83 4 (.slice A k cap) k vs∧RowV wr (fun b=>B+1≤b∧(Value.slice A k cap).ownBlock≠some b) vs (l.take k)∧Below R w wr
theorem cp_round{W0 wr w5 w6 w7:World}{R B k len6 cap6 g cap7 cap':Nat}{A' A6:Option Addr}{k0:Int}{n0 t0:ByteArray}{y:It}{l:List It}{vs:List Value}(hk:k<l.length)(hy:l[k]? =some y)(hRB:R<B)
 (hR:wr.heap[R]? =some (.cells #[.int .i64 0,.string ⟨#[]⟩,.string ⟨#[]⟩,.slice none 0 0] 83 (0,0)))
 (hown0:wr.ownsRow (B+1) 83 4 (.slice A' k cap') k vs)
 (hrow:RowV wr (fun b=>B+1≤b∧(Value.slice A' k cap').ownBlock≠some b) vs (l.take k)) (hB:Below R W0 wr) (hbW:B<wr.heap.size) (h5:Below wr.heap.size wr w5) (hsz5:wr.heap.size+1=w5.heap.size) (h6:Below w5.drew.heap.size w5.drew w6)
 (hs6:SlAt w6 (fun b=>w5.drew.heap.size≤b) A6 len6 cap6 y.list) (hown6:(w6.alloc (.cells #[.int .i64 y.kind,.string y.nat,.string y.text,.slice A6 len6 cap6] 83)).ownsRow (B+1) 83 4 (.slice A' k cap') k vs)
 (hgrow:(w6.alloc (.cells #[.int .i64 y.kind,.string y.nat,.string y.text,.slice A6 len6 cap6] 83)).grownBy w7 (Value.slice A' k cap').ownBlock)
 (hat:(Value.slice A' k cap').ownBlock=some g∨g=(w6.alloc (.cells #[.int .i64 y.kind,.string y.nat,.string y.text,.slice A6 len6 cap6] 83)).heap.size)
 (hout:w7.heap[B]? =some (.cells #[.int .i64 k0,.string n0,.string t0,.slice A' k cap'] 83 (0,0)))
 (hown:w7.ownsRow (B+1) 83 4 (.slice (some ⟨g,0,none⟩) (k+1) cap7) (k+1) (vs++[.int .i64 y.kind,.string y.nat,.string y.text,.slice A6 len6 cap6])) (i:Value) (hi:i=.int .i64 ((k+1:Nat):Int)) :
 CpRel W0 R B k0 n0 t0 l i (w7.setCell ⟨B,3,none⟩ (.slice (some ⟨g,0,none⟩) (k+1) cap7)):=by
 have e5:w5.drew.heap.size=w5.heap.size:=rfl;have h2:w5.heap.size≤w6.heap.size:=h6.size;have hlt:=hown0.lt;have hal:(w6.alloc (.cells #[.int .i64 y.kind,.string y.nat,.string y.text,.slice A6 len6 cap6] 83)).heap.size=w6.heap.size+1:=by simp
 -- the blocks of wr that are not the row appended to
 have same:∀ b,b<wr.heap.size→(Value.slice A' k cap').ownBlock≠some b→w7.heap[b]? =wr.heap[b]?:=fun b hb hne=>by
  rw[hgrow.block b (by omega) (fun e=>hne e.symm),Lib.alloc_old _ _ b (by omega),h6.block b (by omega)];exact h5.block b hb
 have same6:∀ b,b<w6.heap.size→(Value.slice A' k cap').ownBlock≠some b→w7.heap[b]? =w6.heap[b]?:=fun b hb hne=>by
  rw[hgrow.block b (by omega) (fun e=>hne e.symm),Lib.alloc_old _ _ b (by omega)]
 have hne:∀ b,b≤B→(Value.slice A' k cap').ownBlock≠some b:=fun b hb e=>by have:=(hlt _ e).1;omega
 have hset:∀ b,b≠B→(w7.setCell ⟨B,3,none⟩ (.slice (some ⟨g,0,none⟩) (k+1) cap7)).heap[b]? =w7.heap[b]?:=fun b hb=>Below.heap_setCell _ _ _ _ hb;refine⟨k+1,_,_,_,hk,hi,block_setCell hout _,?_,owns_setCell hown (Nat.lt_succ_self _) _,?_,?_⟩
 · rw[hset R (by omega),same R (block_lt hR) (hne R (by omega))];exact hR
 · rw[take_snoc hy];have hs7:SlAt (w7.setCell ⟨B,3,none⟩ (.slice (some ⟨g,0,none⟩) (k+1) cap7)) (fun b=>w5.drew.heap.size≤b∧b<w6.heap.size) A6 len6 cap6 y.list:=SlAt.keep hs6.bound fun b hb _=>by
    rw[hset b (by omega)];exact same6 b hb.2 (fun e=>by have:=(hlt _ e).2;omega)
   have hr7:RowV (w7.setCell ⟨B,3,none⟩ (.slice (some ⟨g,0,none⟩) (k+1) cap7)) (fun b=>(B+1≤b∧(Value.slice A' k cap').ownBlock≠some b)∧b<wr.heap.size) vs (l.take k):=RowV.keep (fun b hb _=>by
    rw[hset b (by omega)]
    exact same b hb.2 hb.1.2) _ _ (RowV.bound _ _ hrow)
   refine RowV.snoc (SlAt.low hs7 fun b hb=>⟨by omega,fun e=>?_⟩) _ _ (RowV.low (fun b hb=>⟨hb.1.1,fun e=>?_⟩) _ _ hr7)
   · simp only[Value.ownBlock,Option.some.injEq]at e;subst e;rcases hat with h | h
     · have:=(hlt _ h).2;omega
     · omega
   · simp only[Value.ownBlock,Option.some.injEq]at e;subst e;rcases hat with h | h
     · exact hb.1.2 h
     · omega
 · have e1:Below R wr w5.drew:=(h5.drew).mono (by omega);have e2:Below R w5.drew w6:=h6.mono (by omega);have e3:Below R w6 (w6.alloc (.cells #[.int .i64 y.kind,.string y.nat,.string y.text,.slice A6 len6 cap6] 83)):=(Below.refl _ _).alloc (by omega) _;exact(((((hB.trans e1).trans e2).trans e3).grown hgrow (by omega) (fun b e=>by have:=(hlt _ e).1;omega))).setCell (p:=⟨B,3,none⟩) (by show R≤B;omega) _
theorem enc_copied(N:Nat):∀(x:It) (v:Value) (w:World) (ok:Nat→Prop),x.nodes≤N→x.nodes≤1000000000000→ItAt w ok v x→Calls Tryz.prog 61 #[v] w (RetIt x w):=by
 induction N with
 | zero=>intro x v w ok h;have:=x.nodes_pos;omega
 | succ N ih =>
  intro x v w ok hN hM ⟨A,len,cap,hv,hs⟩;subst hv;have IH:=Hq ih;have hs0:=hs.bound;clear ih;go_enter Tryz.func61,Tryz.ntmps61;go_wp2;obtain⟨W0,hW0⟩:∃ W0,((w.alloc (.cells #[.int .i64 x.kind,.string x.nat,.string x.text,.slice A len cap] 83)).alloc (.cells #[.int .i64 0,.string ⟨#[]⟩,.string ⟨#[]⟩,.slice none 0 0] 83)).alloc (.cells #[.int .i64 x.kind,.string x.nat,.string x.text,.slice none 0 0] 83)=W0:=⟨_,rfl⟩;rw[hW0];have hB0:Below w.heap.size w W0:=by
   rw[←hW0];exact(((Below.refl _ _).alloc (Nat.le_refl _) _).alloc (by simp) _).alloc (by simp;omega) _
  have hr0:CpRel W0 (w.heap.size+1) (w.heap.size+1+1) x.kind x.nat x.text x.list (.int .i64 0) W0:=by
   refine⟨0,none,0,[],Nat.zero_le _,rfl,?_,?_,World.ownsRow_nil _ _ _ _,trivial,Below.refl _ _⟩
   · rw[←hW0,show w.heap.size+1+1=((w.alloc (.cells #[.int .i64 x.kind,.string x.nat,.string x.text,.slice A len cap] 83)).alloc (.cells #[.int .i64 0,.string ⟨#[]⟩,.string ⟨#[]⟩,.slice none 0 0] 83)).heap.size from by simp];exact heap_alloc_new _ _
   · rw[←hW0,Lib.alloc_old _ _ _ (by simp),show w.heap.size+1=(w.alloc (.cells #[.int .i64 x.kind,.string x.nat,.string x.text,.slice A len cap] 83)).heap.size from by simp];exact heap_alloc_new _ _
  have HB0:=Hq hB0;clear hB0 hW0;go_loopw [16] (fun i wr=>CpRel W0 (w.heap.size+1) (w.heap.size+1+1) x.kind x.nat x.text x.list i wr) (fun i _=>x.list.length - (intOf i).toNat);case atStart=>exact hr0
  case round =>
   clear hr0;obtain⟨k,A',cap',vs,hk,rfl,hout,hres,hown,hrow,hB⟩:=hrel;have hs1:SlAt wr _ A len cap x.list:=hs0.keep (fun b hb _=>by rw[hB.block b (by omega)];exact HB0.out.block b hb.2);have hlen:=hs.1;by_cases hlt:k<len
   · obtain⟨b,o,rfl⟩:=hs1.head (by omega);obtain⟨y,hy⟩:∃ y,x.list[k]? =some y:=⟨_,List.getElem?_eq_getElem (by omega)⟩;obtain⟨A1,len1,cap1,c0,c1,c2,c3,hs2⟩:=(hs1.get? k hy).open;have hout0:wr.cell? ⟨w.heap.size+1+1,3,none⟩=some (.slice A' k cap'):=by rw[Lib.cell_of_heap hout];rfl
     have HS2:=Hq hs2;have HOUT:=Hq hout;have HRES:=Hq hres;have HOWN:=Hq hown;have HROW:=Hq hrow;have HB:=Hq hB;have HLEN:=Hq hlen;have HY:=Hq hy;clear hs1 hs2 hout hres hown hrow hB hlen hs hs0 hy;obtain⟨i0,hi,hz0,hz1,hz2⟩:=info_parts item_info;have hbW:w.heap.size+1+1<wr.heap.size:=block_lt HOUT.out;have hyc:=It.child_nodes HY.out;have hlb:=x.length_lt;have hll:=HLEN.out;have hkb:k≤1000000000000:=by omega
     have hyN:y.nodes≤N:=by omega
     have hyM:y.nodes≤1000000000000:=by omega
     clear hyc hlb hll;go_wp2;obtain⟨w5,hw5⟩:∃ w5,wr.alloc (.cells #[.int .i64 y.kind,.string y.nat,.string y.text,.slice A1 len1 cap1] 83)=w5:=⟨_,rfl⟩;rw[hw5];have d0:w5.cell? ⟨wr.heap.size,0,none⟩=some (.int .i64 y.kind):=by rw[←hw5,World.cell?_alloc_at (hn:=rfl)];rfl
     have d1:w5.cell? ⟨wr.heap.size,1,none⟩=some (.string y.nat):=by rw[←hw5,World.cell?_alloc_at (hn:=rfl)];rfl
     have d2:w5.cell? ⟨wr.heap.size,2,none⟩=some (.string y.text):=by rw[←hw5,World.cell?_alloc_at (hn:=rfl)];rfl
     have d3:w5.cell? ⟨wr.heap.size,3,none⟩=some (.slice A1 len1 cap1):=by rw[←hw5,World.cell?_alloc_at (hn:=rfl)];rfl
     have hB5:Below wr.heap.size wr w5:=by rw[←hw5];exact(Below.refl _ _).alloc (Nat.le_refl _) _
     have hout5:w5.cell? ⟨w.heap.size+1+1,3,none⟩=some (.slice A' k cap'):=cell_kept hB5 (Nat.le_refl _) hout0;have HOUT5:=Hq (block_kept hB5 (Nat.le_refl _) HOUT.out);have HOWN5:=Hq (owns_kept HOWN.out hB5 (Nat.le_refl _));have HS5:=Hq (HS2.out.below hB5 (Nat.le_refl _));have HBB:=Hq hB5;have hsz5:wr.heap.size+1=w5.heap.size:=by rw[←hw5];simp
     have HSZ5:=Hq hsz5;clear c0 c1 c2 c3 hout0 hw5 hB5 hsz5;refine wp_region_K 5 (Below (w5.drew).heap.size (w5.drew)) (by kernel_rfl) ?_;intro hD;refine qP 0 7 rfl hD (Below.refl _ _) ?_;clear hD;intro hD;simp only[Act.put,sqA,sqB,sqC];refine qT 1 6 rfl hD (Below.refl _ _) (by intro w' hS';have e0:=cell_kept hS' (Nat.le_refl _) hout5;have e1:=cell_kept hS' (Nat.le_refl _) d0;have e2:=cell_kept hS' (Nat.le_refl _) d1;have e3:=cell_kept hS' (Nat.le_refl _) d2;have e4:=cell_kept hS' (Nat.le_refl _) d3;go_simp;with_reducible rfl) ?_;clear hD;intro hD;simp only[Act.put,sqA,sqB,sqC];refine qT 2 5 rfl hD (Below.refl _ _) (by intro w' hS';have e0:=cell_kept hS' (Nat.le_refl _) hout5;have e1:=cell_kept hS' (Nat.le_refl _) d0;have e2:=cell_kept hS' (Nat.le_refl _) d1;have e3:=cell_kept hS' (Nat.le_refl _) d2;have e4:=cell_kept hS' (Nat.le_refl _) d3;go_simp;with_reducible rfl) ?_;clear hD;intro hD;simp only[Act.put,sqA,sqB,sqC];refine wpAnyK_one (i:=3) (fuel:=4) (by kernel_rfl) rfl hD ?_;clear hD;intro K3 hK3;go_wp2_with fail;refine(IH.out y _ _ _ hyN hyM ⟨A1,len1,cap1,rfl,HS5.out.below (Below.refl _ _).drew (Nat.le_refl _)⟩).mono ?_;rintro e w6 ⟨v6,rfl,⟨A6,len6,cap6,rfl,hs6⟩,hb6⟩;have HB3:=Hq hb6;have HS6:=Hq hs6;clear hb6 hs6;go_wp2;refine hK3 _ _ (by exact HB3.out) ?_;clear hK3;intro hS_5_3 hD;refine wpAnyK_one (i:=4) (fuel:=3) (by kernel_rfl) rfl hD ?_;clear hD;intro K4 hK4;go_wp2;refine hK4 _ _ (by exact Below.alloc hS_5_3 (Below.size hS_5_3) _) ?_;clear hK4;intro hS_5_4 hD;refine wpAnyK_oneT (i:=5) (fuel:=2) (by kernel_rfl) rfl hD (by kernel_rfl) ?_;clear hD;intro K5 hK5;have hown6:(w6.alloc (.cells #[.int .i64 y.kind,.string y.nat,.string y.text,.slice A6 len6 cap6] 83)).ownsRow (w.heap.size+1+1+1) 83 4 (.slice A' k cap') k vs:=(owns_kept HOWN5.out.drew HB3.out (Nat.le_refl _)).alloc _;refine(wpList_append_lies _ rfl (.tmp 21) (.tmp 24) 81 rfl (w.heap.size+1+1+1) 83 i0 _ 4 64 Tryz.underlying81 hi hz0 hz1 hz2 rfl (by decide) _ k vs rfl hown6 ⟨w6.heap.size,0,none⟩ 1 1 [.int .i64 y.kind,.string y.nat,.string y.text,.slice A6 len6 cap6] rfl rfl ?hnews ?hone (by decide) ?h63 ?hby ?hbase _ rfl ?_);case hnews=>exact World.news_of_block (heap_alloc_new _ _)
     case hone=>intro u hu;simp only[List.mem_cons,List.mem_nil_iff,or_false]at hu;rcases hu with rfl | rfl | rfl | rfl<;>rfl
     case h63=>unfold maxLen;omega
     case hby=>omega
     case hbase=>have:=HB3.out.size;have:=HSZ5.out;simp at *;omega
     intro g cap7 w7 hown7 hgrow7 hat7 hlt7;have hsz6:w5.drew.heap.size≤w6.heap.size:=HB3.out.size;have hout7:w7.heap[w.heap.size+1+1]? =some (.cells #[.int .i64 x.kind,.string x.nat,.string x.text,.slice A' k cap'] 83 (0,0)):=by
      have h6:=block_kept (w:=w5.drew) HB3.out (Nat.le_refl _) HOUT5.out;rw[hgrow7.block _ (by have:=block_lt h6;simp;omega) (fun e=>by have:=(hown6.lt _ e.symm).1;omega),Lib.alloc_old _ _ _ (block_lt h6)];exact h6
     have f7:=Lib.frozen_of_heap hout7 3;have c7:w7.cell? ⟨w.heap.size+1+1,3,none⟩=some (.slice A' k cap'):=by rw[Lib.cell_of_heap hout7];rfl
     have HEND:=Hq (fun i hi=>cp_round (g:=g) (by have:=HLEN.out;omega) HY.out (Nat.lt_succ_self _) HRES.out HOWN.out HROW.out HB.out hbW HBB.out HSZ5.out HB3.out HS6.out hown6 hgrow7 hat7 hout7 hown7 i hi);clear hout7 hown7 hgrow7 hat7 hlt7 hown6;go_wp2;refine hK5 _ _ ?_;clear hK5;intro hD;refine wpAnyK_pureT (i:=6) (v:=?v5_6b1) (fuel:=1) rfl (by kernel_rfl) (by kernel_rfl) (fun _ _ _ h=>h) hD  (.inl ⟨by kernel_rfl,?y5_6b1⟩) ?n5_6b1
     case y5_6b1=>intro w' _;go_simp;with_reducible rfl
     clear hD;intro hD;simp only[Act.put,sqA,sqB,sqC];refine wpAnyK_oneT (i:=7) (fuel:=0) (by kernel_rfl) rfl hD (by kernel_rfl) ?_;clear hD;intro K7 hK7;go_wp2;refine hK7 _ _ ?_;clear hK7;intro hD;refine wpAnyK_done (by kernel_rfl) ?_ 0;clear hD;go_wp2;exact⟨HEND.out _ (by go_num),by simp[intOf];have:=HLEN.out;omega⟩
   · obtain rfl:k=len:=by omega
     obtain⟨hc0,hc1,hc2,hc3⟩:=four_cells hout;obtain⟨rc0,rc1,rc2,rc3⟩:=four_cells hres;obtain⟨rf0,rf1,rf2,rf3⟩:=four_free hres;have hfin:=(RowV.slice (RowV.low (fun b hb=>hb.1) _ _ hrow) hown (fun g e=>(hown.lt g e).1)).2;rw[List.take_of_length_le (by omega)]at hfin;have HB:=Hq hB;have HFIN:=Hq hfin;have HRES:=Hq hres;clear hs1 hrow hown hB hout hs hs0 hres hfin;go_wp2;have HE:=Hq (four_cells (set4_block HRES.out (.int .i64 x.kind) (.string x.nat) (.string x.text) (.slice A' k cap')));have HK:=Hq (HFIN.out.keep (w':=set4 wr (w.heap.size+1) (.int .i64 x.kind) (.string x.nat) (.string x.text) (.slice A' k cap')) (fun b hb _=>set4_other _ _ _ _ (by omega)));have HBE:=Hq (set4_below (B:=w.heap.size) (HB0.out.trans (HB.out.mono (by omega))) (b:=w.heap.size+1) (by omega) (.int .i64 x.kind) (.string x.nat) (.string x.text) (.slice A' k cap'));unfold set4 at HE HK HBE;obtain⟨wf,hwf⟩:∃ wf,(((wr.setCell ⟨w.heap.size+1,0,none⟩ (.int .i64 x.kind)).setCell ⟨w.heap.size+1,1,none⟩ (.string x.nat)).setCell ⟨w.heap.size+1,2,none⟩ (.string x.text)).setCell ⟨w.heap.size+1,3,none⟩ (.slice A' k cap')=wf:=⟨_,rfl⟩;rw[hwf]at HE HK HBE⊢;obtain⟨q0,q1,q2,q3⟩:=HE.out;exact bodyPost_ret (v:=.agg #[.int .i64 x.kind,.string x.nat,.string x.text,.slice A' k cap']) (by simp[results,Tryz.results61,go_sem,q0,q1,q2,q3]) rfl ⟨_,rfl,⟨_,_,_,rfl,HK.out.low (fun b hb=>by omega)⟩,HBE.out⟩
theorem enc_List(l:List It)(A:Option Addr)(len cap:Nat)(w:World)(ok:Nat→Prop)(hM:Its.nodes l≤1000000000000)(hs:SlAt w ok A len cap l):Calls Tryz.prog 37 #[.slice A len cap] w (RetIt (.mk 2 ⟨#[]⟩ ⟨#[]⟩ l) w):=by
 have hs0:=hs.bound;go_enter Tryz.func37,Tryz.ntmps37;go_wp2;obtain⟨W0,hW0⟩:∃ W0,(w.alloc (.cells #[.int .i64 0,.string ⟨#[]⟩,.string ⟨#[]⟩,.slice none 0 0] 83)).alloc (.cells #[.int .i64 2,.string ⟨#[]⟩,.string ⟨#[]⟩,.slice none 0 0] 83)=W0:=⟨_,rfl⟩;rw[hW0];have hB0:Below w.heap.size w W0:=(by rw[←hW0];exact((Below.refl _ _).alloc (Nat.le_refl _) _).alloc (by simp) _);have hr0:CpRel W0 (w.heap.size) (w.heap.size+1) 2 ⟨#[]⟩ ⟨#[]⟩ l (.int .i64 0) W0:=by
  refine⟨0,none,0,[],Nat.zero_le _,rfl,?_,?_,World.ownsRow_nil _ _ _ _,trivial,Below.refl _ _⟩
  · rw[←hW0,show w.heap.size+1=(w.alloc (.cells #[.int .i64 0,.string ⟨#[]⟩,.string ⟨#[]⟩,.slice none 0 0] 83)).heap.size from by simp];exact heap_alloc_new _ _
  · rw[←hW0,Lib.alloc_old _ _ _ (by simp)];exact heap_alloc_new _ _
 have HB0:=Hq hB0;clear hB0 hW0;go_loopw [9] (fun i wr=>CpRel W0 (w.heap.size) (w.heap.size+1) 2 ⟨#[]⟩ ⟨#[]⟩ l i wr) (fun i _=>l.length - (intOf i).toNat);case atStart=>exact hr0
 case round =>
  clear hr0;obtain⟨k,A',cap',vs,hk,rfl,hout,hres,hown,hrow,hB⟩:=hrel;have hs1:SlAt wr _ A len cap l:=hs0.keep (fun b hb _=>by rw[hB.block b (by omega)];exact HB0.out.block b hb.2);have hlen:=hs.1;by_cases hlt:k<len
  · obtain⟨b,o,rfl⟩:=hs1.head (by omega);obtain⟨y,hy⟩:∃ y,l[k]? =some y:=⟨_,List.getElem?_eq_getElem (by omega)⟩;obtain⟨A1,len1,cap1,c0,c1,c2,c3,hs2⟩:=(hs1.get? k hy).open;have hout0:wr.cell? ⟨w.heap.size+1,3,none⟩=some (.slice A' k cap'):=by rw[Lib.cell_of_heap hout];rfl
    have HS2:=Hq hs2;have HOUT:=Hq hout;have HRES:=Hq hres;have HOWN:=Hq hown;have HROW:=Hq hrow;have HB:=Hq hB;have HLEN:=Hq hlen;have HY:=Hq hy;clear hs1 hs2 hout hres hown hrow hB hlen hs hs0 hy;obtain⟨i0,hi,hz0,hz1,hz2⟩:=info_parts item_info;have hbW:w.heap.size+1<wr.heap.size:=block_lt HOUT.out;have hyc:=Its.mem_nodes (List.mem_of_getElem? HY.out);have hlb:=Its.length_le_nodes l;have hll:=HLEN.out;have hkb:k≤1000000000000:=by omega
    have hyM:y.nodes≤1000000000000:=by omega
    clear hyc hlb hll;go_wp2;obtain⟨w5,hw5⟩:∃ w5,wr.alloc (.cells #[.int .i64 y.kind,.string y.nat,.string y.text,.slice A1 len1 cap1] 83)=w5:=⟨_,rfl⟩;rw[hw5];have d0:w5.cell? ⟨wr.heap.size,0,none⟩=some (.int .i64 y.kind):=by rw[←hw5,World.cell?_alloc_at (hn:=rfl)];rfl
    have d1:w5.cell? ⟨wr.heap.size,1,none⟩=some (.string y.nat):=by rw[←hw5,World.cell?_alloc_at (hn:=rfl)];rfl
    have d2:w5.cell? ⟨wr.heap.size,2,none⟩=some (.string y.text):=by rw[←hw5,World.cell?_alloc_at (hn:=rfl)];rfl
    have d3:w5.cell? ⟨wr.heap.size,3,none⟩=some (.slice A1 len1 cap1):=by rw[←hw5,World.cell?_alloc_at (hn:=rfl)];rfl
    have hB5:Below wr.heap.size wr w5:=by rw[←hw5];exact(Below.refl _ _).alloc (Nat.le_refl _) _
    have hout5:w5.cell? ⟨w.heap.size+1,3,none⟩=some (.slice A' k cap'):=cell_kept hB5 (Nat.le_refl _) hout0;have HOUT5:=Hq (block_kept hB5 (Nat.le_refl _) HOUT.out);have HOWN5:=Hq (owns_kept HOWN.out hB5 (Nat.le_refl _));have HS5:=Hq (HS2.out.below hB5 (Nat.le_refl _));have HBB:=Hq hB5;have hsz5:wr.heap.size+1=w5.heap.size:=by rw[←hw5];simp
    have HSZ5:=Hq hsz5;clear c0 c1 c2 c3 hout0 hw5 hB5 hsz5;refine wp_region_K 5 (Below (w5.drew).heap.size (w5.drew)) (by kernel_rfl) ?_;intro hD;refine qP 0 7 rfl hD (Below.refl _ _) ?_;clear hD;intro hD;simp only[Act.put,sqA,sqB,sqC];refine qT 1 6 rfl hD (Below.refl _ _) (by intro w' hS';have e0:=cell_kept hS' (Nat.le_refl _) hout5;have e1:=cell_kept hS' (Nat.le_refl _) d0;have e2:=cell_kept hS' (Nat.le_refl _) d1;have e3:=cell_kept hS' (Nat.le_refl _) d2;have e4:=cell_kept hS' (Nat.le_refl _) d3;go_simp;with_reducible rfl) ?_;clear hD;intro hD;simp only[Act.put,sqA,sqB,sqC];refine qT 2 5 rfl hD (Below.refl _ _) (by intro w' hS';have e0:=cell_kept hS' (Nat.le_refl _) hout5;have e1:=cell_kept hS' (Nat.le_refl _) d0;have e2:=cell_kept hS' (Nat.le_refl _) d1;have e3:=cell_kept hS' (Nat.le_refl _) d2;have e4:=cell_kept hS' (Nat.le_refl _) d3;go_simp;with_reducible rfl) ?_;clear hD;intro hD;simp only[Act.put,sqA,sqB,sqC];refine wpAnyK_one (i:=3) (fuel:=4) (by kernel_rfl) rfl hD ?_;clear hD;intro K3 hK3;go_wp2_with fail;refine(enc_copied _ y _ _ _ (Nat.le_refl _) hyM ⟨A1,len1,cap1,rfl,HS5.out.below (Below.refl _ _).drew (Nat.le_refl _)⟩).mono ?_;rintro e w6 ⟨v6,rfl,⟨A6,len6,cap6,rfl,hs6⟩,hb6⟩;have HB3:=Hq hb6;have HS6:=Hq hs6;clear hb6 hs6;go_wp2;refine hK3 _ _ (by exact HB3.out) ?_;clear hK3;intro hS_5_3 hD;refine wpAnyK_one (i:=4) (fuel:=3) (by kernel_rfl) rfl hD ?_;clear hD;intro K4 hK4;go_wp2;refine hK4 _ _ (by exact Below.alloc hS_5_3 (Below.size hS_5_3) _) ?_;clear hK4;intro hS_5_4 hD;refine wpAnyK_oneT (i:=5) (fuel:=2) (by kernel_rfl) rfl hD (by kernel_rfl) ?_;clear hD;intro K5 hK5;have hown6:(w6.alloc (.cells #[.int .i64 y.kind,.string y.nat,.string y.text,.slice A6 len6 cap6] 83)).ownsRow (w.heap.size+1+1) 83 4 (.slice A' k cap') k vs:=(owns_kept HOWN5.out.drew HB3.out (Nat.le_refl _)).alloc _;refine(wpList_append_lies _ rfl (.tmp 14) (.tmp 17) 81 rfl (w.heap.size+1+1) 83 i0 _ 4 64 Tryz.underlying81 hi hz0 hz1 hz2 rfl (by decide) _ k vs rfl hown6 ⟨w6.heap.size,0,none⟩ 1 1 [.int .i64 y.kind,.string y.nat,.string y.text,.slice A6 len6 cap6] rfl rfl ?hnews ?hone (by decide) ?h63 ?hby ?hbase _ rfl ?_);case hnews=>exact World.news_of_block (heap_alloc_new _ _)
    case hone=>intro u hu;simp only[List.mem_cons,List.mem_nil_iff,or_false]at hu;rcases hu with rfl | rfl | rfl | rfl<;>rfl
    case h63=>unfold maxLen;omega
    case hby=>omega
    case hbase=>have:=HB3.out.size;have:=HSZ5.out;simp at *;omega
    intro g cap7 w7 hown7 hgrow7 hat7 hlt7;have hsz6:w5.drew.heap.size≤w6.heap.size:=HB3.out.size;have hout7:w7.heap[w.heap.size+1]? =some (.cells #[.int .i64 2,.string ⟨#[]⟩,.string ⟨#[]⟩,.slice A' k cap'] 83 (0,0)):=by
     have h6:=block_kept (w:=w5.drew) HB3.out (Nat.le_refl _) HOUT5.out;rw[hgrow7.block _ (by have:=block_lt h6;simp;omega) (fun e=>by have:=(hown6.lt _ e.symm).1;omega),Lib.alloc_old _ _ _ (block_lt h6)];exact h6
    have f7:=Lib.frozen_of_heap hout7 3;have c7:w7.cell? ⟨w.heap.size+1,3,none⟩=some (.slice A' k cap'):=by rw[Lib.cell_of_heap hout7];rfl
    have HEND:=Hq (fun i hi=>cp_round (g:=g) (by have:=HLEN.out;omega) HY.out (Nat.lt_succ_self _) HRES.out HOWN.out HROW.out HB.out hbW HBB.out HSZ5.out HB3.out HS6.out hown6 hgrow7 hat7 hout7 hown7 i hi);clear hout7 hown7 hgrow7 hat7 hlt7 hown6;go_wp2;refine hK5 _ _ ?_;clear hK5;intro hD;refine wpAnyK_pureT (i:=6) (v:=?v5_6b2) (fuel:=1) rfl (by kernel_rfl) (by kernel_rfl) (fun _ _ _ h=>h) hD  (.inl ⟨by kernel_rfl,?y5_6b2⟩) ?n5_6b2
    case y5_6b2=>intro w' _;go_simp;with_reducible rfl
    clear hD;intro hD;simp only[Act.put,sqA,sqB,sqC];refine wpAnyK_oneT (i:=7) (fuel:=0) (by kernel_rfl) rfl hD (by kernel_rfl) ?_;clear hD;intro K7 hK7;go_wp2;refine hK7 _ _ ?_;clear hK7;intro hD;refine wpAnyK_done (by kernel_rfl) ?_ 0;clear hD;go_wp2;exact⟨HEND.out _ (by go_num),by simp[intOf];have:=HLEN.out;omega⟩
  · obtain rfl:k=len:=by omega
    obtain⟨hc0,hc1,hc2,hc3⟩:=four_cells hout;obtain⟨rc0,rc1,rc2,rc3⟩:=four_cells hres;obtain⟨rf0,rf1,rf2,rf3⟩:=four_free hres;have hfin:=(RowV.slice (RowV.low (fun b hb=>hb.1) _ _ hrow) hown (fun g e=>(hown.lt g e).1)).2;rw[List.take_of_length_le (by omega)]at hfin;have HB:=Hq hB;have HFIN:=Hq hfin;have HRES:=Hq hres;clear hs1 hrow hown hB hout hs hs0 hres hfin;go_wp2;have HE:=Hq (four_cells (set4_block HRES.out (.int .i64 2) (.string ⟨#[]⟩) (.string ⟨#[]⟩) (.slice A' k cap')));have HK:=Hq (HFIN.out.keep (w':=set4 wr (w.heap.size) (.int .i64 2) (.string ⟨#[]⟩) (.string ⟨#[]⟩) (.slice A' k cap')) (fun b hb _=>set4_other _ _ _ _ (by omega)));have HBE:=Hq (set4_below (B:=w.heap.size) (HB0.out.trans (HB.out.mono (by omega))) (b:=w.heap.size) (by omega) (.int .i64 2) (.string ⟨#[]⟩) (.string ⟨#[]⟩) (.slice A' k cap'));unfold set4 at HE HK HBE;obtain⟨wf,hwf⟩:∃ wf,(((wr.setCell ⟨w.heap.size,0,none⟩ (.int .i64 2)).setCell ⟨w.heap.size,1,none⟩ (.string ⟨#[]⟩)).setCell ⟨w.heap.size,2,none⟩ (.string ⟨#[]⟩)).setCell ⟨w.heap.size,3,none⟩ (.slice A' k cap')=wf:=⟨_,rfl⟩;rw[hwf]at HE HK HBE⊢;obtain⟨q0,q1,q2,q3⟩:=HE.out;exact bodyPost_ret (v:=.agg #[.int .i64 2,.string ⟨#[]⟩,.string ⟨#[]⟩,.slice A' k cap']) (by simp[results,Tryz.results37,go_sem,q0,q1,q2,q3]) rfl ⟨_,rfl,⟨_,_,_,rfl,HK.out.low (fun b hb=>by omega)⟩,HBE.out⟩
end Go.Proofs.YtamhonjkgkmdbaaGreat
