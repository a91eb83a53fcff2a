import Derived.Test.YtfbmbledklbfgaaGreatDoorQMkL
import Derived.Deep.DeepCutAuto
import Derived.Deep.CutBlock
set_option linter.unusedVariables false
set_option linter.unusedSimpArgs false
namespace Go.Proofs.YtfbmbledklbfgaaGreatDoor
set_option maxRecDepth 100000
set_option maxHeartbeats 4000000
open Go.RowKit
def btN(l:List ByteArray)(m:Int):List ByteArray×Int:=if m<0∨(l.length:Int)<m then([],2)else if m=0∨m=l.length then([],0)else(proofF l.length l m.toNat true,0)
def RetBt(r:List ByteArray×Int)(w:World)(e:Ending)(w':World):Prop:=∃ A c,e=.returned (.tuple #[.slice A r.1.length c,.int .i64 r.2])∧SlN w' A r.1.length c r.1∧Below w.heap.size w w'
theorem m_Between(l:List ByteArray)(A:Option Addr)(n c:Nat)(m:Int)(w:World)(hs:SlN w A n c l)(hn:n≤4096)(hsz:∀ s∈l,s.size≤1000000):Calls Tryz.prog 8 #[.slice A n c,.int .i64 m] w (RetBt (btN l m) w):=by
 have hlen:=hs.1;by_cases h1:m<0
 · have HR:=Hq (show btN l m=([],2)from by unfold btN;rw[if_pos (Or.inl h1)]);clear hs hsz hlen;go_enter Tryz.func8,Tryz.ntmps8;go_wp2;go_ret2;rw[HR.out];exact⟨none,0,rfl,SlN.nil _ 0 (by decide) none,Below.refl _ _⟩
 · by_cases h2:(n:Int)<m
   · have HR:=Hq (show btN l m=([],2)from by unfold btN;rw[hlen,if_pos (Or.inr h2)]);clear hs hsz hlen;go_enter Tryz.func8,Tryz.ntmps8;go_wp2;go_ret2;rw[HR.out];exact⟨none,0,rfl,SlN.nil _ 0 (by decide) none,Below.refl _ _⟩
   · by_cases h3:m=0
     · have HR:=Hq (show btN l m=([],0)from by unfold btN;rw[hlen,if_neg (by omega),if_pos (Or.inl h3)]);subst h3;clear hs hsz hlen;go_enter Tryz.func8,Tryz.ntmps8;go_wp2;go_ret2;rw[HR.out];exact⟨none,0,rfl,SlN.nil _ 0 (by decide) none,Below.refl _ _⟩
     · have h3i:(m==0)=false:=by rw[beq_eq_false_iff_ne];exact h3
       by_cases h4:m=n
       · have HR:=Hq (show btN l m=([],0)from by unfold btN;rw[hlen,if_neg (by omega),if_pos (Or.inr h4)]);have h4i:(m==(n:Int))=true:=by rw[h4];exact beq_self_eq_true _
         clear hs hsz hlen h4 h3;go_enter Tryz.func8,Tryz.ntmps8;go_wp2;go_ret2;rw[HR.out];exact⟨none,0,rfl,SlN.nil _ 0 (by decide) none,Below.refl _ _⟩
       · obtain⟨k,rfl⟩:∃ k:Nat,m=k:=⟨m.toNat,by omega⟩;have h4i:((k:Int)==(n:Int))=false:=by rw[beq_eq_false_iff_ne];exact h4
         have HR:=Hq (show btN l k=(proofF n l k true,0)from by unfold btN;rw[hlen,if_neg (by omega),if_neg (by omega),Int.toNat_natCast]);obtain⟨F1,hF1⟩:∃ v,Value.func (.func 30) #[] #[.pointer (some ⟨w.heap.size,0,none⟩),.pointer (some ⟨w.heap.size+1,0,none⟩)]=v:=⟨_,rfl⟩;have h1F:F1.oneCell'=true:=by rw[←hF1];rfl
         have HF1:=Hq hF1;clear hF1;obtain⟨V1,hV1⟩:∃ W,w.alloc (.cells #[.slice none 0 0] 41)=W:=⟨_,rfl⟩;have hs1:V1.heap.size=w.heap.size+1:=by rw[←hV1];simp
         have hp1:V1.heap[w.heap.size]? =some (.cells #[.slice none 0 0] 41 (0,0)):=by rw[←hV1];exact heap_alloc_new _ _
         have hb1:Below w.heap.size w V1:=by rw[←hV1];exact(blr).alloc nlr _
         have hn2:(V1.alloc (.cells #[.nilFunc] 77)).heap[w.heap.size+1]? =some (.cells #[.nilFunc] 77 (0,0)):=by rw[←hs1];exact heap_alloc_new _ _
         have hg2:((V1.alloc (.cells #[.nilFunc] 77)).setRow (w.heap.size+1) #[F1]).heap[w.heap.size+1]? =some (.cells #[F1] 77 (0,0)):=setRow_heap _ _ _ _ _ _ hn2;have hb2:Below V1.heap.size V1 ((V1.alloc (.cells #[.nilFunc] 77)).setRow (w.heap.size+1) #[F1]):=(by have h:=(Below.refl V1.heap.size V1).alloc nlr (.cells #[.nilFunc] 77);exact⟨h.os,h.tape,h.output,by rw[size_setRow];exact h.size,fun k hk=>(setRow_other _ _ _ _ (by omega)).trans (h.block k hk)⟩);obtain⟨V2,hV2⟩:∃ W,(V1.alloc (.cells #[.nilFunc] 77)).setRow (w.heap.size+1) #[F1]=W:=⟨_,rfl⟩;rw[hV2]at hg2 hb2;have hvs:VS w V2 (.slice none 0 0) 0 []:=⟨(hb2.block _ (by omega)).trans hp1,by rw[HF1.out];exact hg2,World.ownsRow_nil _ _ _ _,hb1.trans (hb2.mono hb1.size)⟩;have HC:=Hq (mb_visit w n l A n c k true [] 0 (.slice none 0 0) V2 hs hn hsz (by omega) (by omega) nlr hvs (by omega));rw[List.nil_append,Nat.zero_add]at HC;have g0:=one_cell hvs.g;clear hs hsz hlen h4 h3 hvs hp1 hg2 hb1 hb2;go_enter Tryz.func8,Tryz.ntmps8;go_upto_region 7 with(fail)
         try rw[hV1]
         try rw[hs1]
         refine wp_region_lit ?_;iterate 3 go_step
         try rw[hs1]
         try rw[HF1.out]
         refine wpList_store_oneTo rfl 77 _ _ rfl rfl (w.heap.size+1) F1 rfl rfl h1F 77 .nilFunc hn2 (by kernel_rfl) ?_;rw[hV2];clear hV2 hn2 hV1 hs1 h1F HF1;go_wp2_with fail;refine HC.out.mono ?_;rintro e w5 ⟨rfl,v5,hv5⟩;have p5:=one_cell hv5.p;obtain⟨hl5,A5,c5,e5,hs5⟩:=SlN.of_owns hv5.o;subst e5;have HS5:=Hq hs5;have HB5:=Hq hv5.b;clear hv5 hs5 hl5 g0;go_wp2;go_ret2;rw[HR.out];exact⟨A5,c5,rfl,HS5.out,HB5.out⟩
def msgsE(l:List En):List ByteArray×Int:=match l.find? (fun e=>decide ((msgS e).2≠0))with
 | some e=>([],(msgS e).2)
 | none=>(l.map (fun e=>(msgS e).1),0)
theorem msgsE_bad{l:List En}{j:Nat}{e:En}(he:l[j]? =some e)(hb:(msgS e).2≠0)(hall:∀(i:Nat) x,i<j→l[i]? =some x→(msgS x).2=0):msgsE l=([],(msgS e).2):=by
 have : l.find? (fun e=>decide ((msgS e).2≠0))=some e:=by
  rw[List.find?_eq_some_iff_getElem];obtain⟨hj,he⟩:=List.getElem?_eq_some_iff.1 he;exact⟨by simpa using hb,j,hj,he,fun i hi=>by
   have:=hall i l[i] hi (List.getElem?_eq_getElem _)
   simp[this]⟩
 unfold msgsE;rw[this]
theorem msgsE_good{l:List En}(hall:∀(i:Nat) x,l[i]? =some x→(msgS x).2=0):msgsE l=(l.map (fun e=>(msgS e).1),0):=by
 have : l.find? (fun e=>decide ((msgS e).2≠0))=none:=(by rw[List.find?_eq_none];intro x hx;obtain⟨i,hi⟩:=List.getElem?_of_mem hx;simp[hall i x hi]);unfold msgsE;rw[this]
theorem msgsE_len{l:List En}(h:(msgsE l).2=0):(msgsE l).1=l.map (fun e=>(msgS e).1):=by
 unfold msgsE at *;split at h
 · rename_i e he;have:=List.find?_some he;simp at this;exact absurd h this
 · rfl
theorem encS_sizeL(x:It):(encS x).1.size≤1000000:=by
 unfold encS;split
 · show (⟨#[]⟩:ByteArray).size≤_;decide
 · split
   · show (⟨#[]⟩:ByteArray).size≤_;decide
   · split
     · show (⟨#[]⟩:ByteArray).size≤_;decide
     · rw[bstr_size];omega
theorem msgS_size(e:En):(msgS e).1.size≤1000000:=by
 unfold msgS;split
 · show (⟨#[]⟩:ByteArray).size≤_;decide
 · split
   · show (⟨#[]⟩:ByteArray).size≤_;decide
   · exact encS_sizeL _
abbrev itsH(n:Nat)(r:ByteArray):List It:=[.mk 1 ⟨#[]⟩ ⟨#[104,101,97,100]⟩ [],.mk 0 (bstr (encN n)) ⟨#[]⟩ [],.mk 1 ⟨#[]⟩ r []]
def itH(n:Nat)(r:ByteArray):It:=.mk 2 ⟨#[]⟩ ⟨#[]⟩ (itsH n r)
def hdS(n:Nat)(r:ByteArray):ByteArray:=(encS (itH n r)).1
theorem itH_weight{n:Nat}{r:ByteArray}(hn:n≤100000)(hr:r.size≤100):(itH n r).weight≤1000:=by
 have h1:(encN n).length≤8:=encN_length_le.2 (by omega);simp only[itH,It.weight,Its.weight,bstr_size];have e1:(⟨#[]⟩:ByteArray).size=0:=rfl;have e2:(⟨#[104,101,97,100]⟩:ByteArray).size=4:=rfl;omega
theorem hd_ok{n:Nat}{r:ByteArray}(hn:n≤100000)(hr:r.size≤100):encS (itH n r)=(hdS n r,0):=by
 have hv:nvalid (bstr (encN n))=true:=(nvalid_nS (n:=n)).2 (Nat.lt_of_le_of_lt hn (by decide));have e1:(itH n r).valid=true:=(by unfold itH It.valid;rw[if_neg (by decide),if_neg (by decide),if_pos rfl];simp only[itsH,Its.valid,It.valid,hv];rfl);have e2:(itH n r).depth=1:=rfl;have e3:(itH n r).bytes.length≤1000:=Nat.le_trans (It.bytes_le _) (itH_weight hn hr);have : (encS (itH n r)).2=0:=(by unfold encS;rw[if_neg (by rw[e1];decide),if_neg (by rw[e2];decide),if_neg (by omega)]);exact Prod.ext rfl this
theorem hdS_size(n:Nat)(r:ByteArray):(hdS n r).size≤1000000:=encS_sizeL _
theorem row3H{w:World}{T:TypeId}{fr:Nat×Nat}{b:Nat}{k0 k1 k2:Int}{n0 n1 n2 t0 t1 t2:ByteArray}
 (hb:w.heap[b]? =some (.cells #[.int .i64 k0,.string n0,.string t0,.slice none 0 0,.int .i64 k1,.string n1,.string t1,.slice none 0 0,.int .i64 k2,.string n2,.string t2,.slice none 0 0] T fr)) :
 SlAt w (fun _=>True) (some ⟨b,0,none⟩) 3 3 [.mk k0 n0 t0 [],.mk k1 n1 t1 [],.mk k2 n2 t2 []]:=by
 have hc:=fun k=>Lib.cell_of_heap hb (j:=k);refine⟨rfl,Nat.le_refl _,by omega,b,0,fun _=>⟨rfl,trivial⟩,?_⟩;refine⟨CellsAt.mk' (hc 0) (hc 1) (hc 2) (hc 3) (SlAt.nil _ _),CellsAt.mk' (hc 4) (hc 5) (hc 6) (hc 7) (SlAt.nil _ _),CellsAt.mk' (hc 8) (hc 9) (hc 10) (hc 11) (SlAt.nil _ _),trivial⟩
theorem rootF_size:∀(f:Nat) (l:List ByteArray),(rootF f l).size=32
 | 0,l=>by unfold rootF;rw[bstr_size,shaL_length]
 | f+1,l=>by
  unfold rootF;split
  · rw[bstr_size,shaL_length]
  · split
    · unfold leafH;rw[bstr_size,shaL_length]
    · unfold nodeH;rw[bstr_size,shaL_length]
theorem rootL_size(l:List ByteArray):(rootL l).size=32:=rootF_size _ _
def rtE(l:List En):ByteArray:=rootL (l.map (fun e=>(msgS e).1))
structure Est (B u u1 y1 y0 q r:Nat):Prop where
 eq:q * y1+r=u
 ge:(u * B+u1) / (y1 * B+y0)≤q
 le:q≤B+1
theorem est_test{B u u1 y1 y0 q r:Nat}(h:q * y1+r=u):q * y0≤B * r+u1↔q * (y1 * B+y0)≤u * B+u1:=by
 subst h;have e1:q * (y1 * B+y0)=q * y1 * B+q * y0:=by rw[Nat.mul_add,Nat.mul_assoc]
 have e2:(q * y1+r) * B=q * y1 * B+B * r:=by rw[Nat.add_mul,Nat.mul_comm B r]
 rw[e1,e2];omega
theorem est_true{B u u1 y1 y0 q:Nat}(hy:0<y1 * B+y0):q * (y1 * B+y0)≤u * B+u1↔q≤(u * B+u1) / (y1 * B+y0):=(Nat.le_div_iff_mul_le hy).symm
theorem est_digit{B u u1 y1 y0:Nat}(h1:u1<B)(hu:u<y1 * B+y0):(u * B+u1) / (y1 * B+y0)<B:=by
 rw[Nat.div_lt_iff_lt_mul (by omega)];have:=Nat.mul_le_mul_right B (show u+1≤y1 * B+y0 from hu);rw[Nat.succ_mul]at this;rw[Nat.mul_comm B];omega
theorem est_start{B u u1 y1 y0:Nat}(h1:u1<B)(hy1:B≤2 * y1)(hy0:y0<B)(hu:u<y1 * B+y0):Est B u u1 y1 y0 (u / y1) (u%y1):=by
 have hB:0<B:=by omega
 have hp:0<y1:=by omega
 refine⟨by rw[Nat.mul_comm];exact Nat.div_add_mod u y1,?_,?_⟩
 · rw[Nat.le_div_iff_mul_le hp];have h2:=Nat.div_mul_le_self (u * B+u1) (y1 * B+y0);generalize (u * B+u1) / (y1 * B+y0)=d at *;have e1:d * (y1 * B+y0)=d * y1 * B+d * y0:=by rw[Nat.mul_add,Nat.mul_assoc]
   rw[e1]at h2;rcases Nat.lt_or_ge u (d * y1)with h3 | h3
   · have h4:=Nat.mul_le_mul_right B (show u+1≤d * y1 from h3);rw[Nat.succ_mul]at h4;omega
   · exact h3
 · have : u / y1<B+2:=by
    rw[Nat.div_lt_iff_lt_mul hp];have e1:(B+2) * y1=y1 * B+2 * y1:=by rw[Nat.add_mul,Nat.mul_comm B]
    omega
   omega
theorem est_less{B u u1 y1 y0 q r:Nat}(h:Est B u u1 y1 y0 q r)(h1:u1<B)(hu:u<y1 * B+y0)(ht:B≤q∨B * r+u1<q * y0):1≤q∧Est B u u1 y1 y0 (q - 1) (r+y1):=by
 have hd:=est_digit h1 hu;have hlt:(u * B+u1) / (y1 * B+y0)<q:=by
  rcases ht with ht | ht
  · omega
  · rcases Nat.lt_or_ge ((u * B+u1) / (y1 * B+y0)) q with h' | h'
    · exact h'
    · have:=(est_test (B:=B) (u1:=u1) (y0:=y0) h.eq).2 ((est_true (by omega)).2 h');omega
 have h2:=h.eq;have h5:=h.le;have hge:(u * B+u1) / (y1 * B+y0)≤q - 1:=(by generalize (u * B+u1) / (y1 * B+y0)=d at *;omega);have hq1:1≤q:=Nat.lt_of_le_of_lt (Nat.zero_le _) hlt;refine⟨hq1,⟨?_,hge,by omega⟩⟩;obtain⟨k,rfl⟩:∃ k,q=k+1:=⟨q - 1,by omega⟩;rw[Nat.add_sub_cancel];rw[Nat.succ_mul]at h2;omega
theorem est_done{B u u1 y1 y0 q r:Nat}(h:Est B u u1 y1 y0 q r)(hy:0<y1 * B+y0)(ht:q * y0≤B * r+u1):q=(u * B+u1) / (y1 * B+y0):=
 Nat.le_antisymm ((est_true hy).1 ((est_test h.eq).1 ht)) h.ge
theorem est_break{B u u1 y1 y0 q r:Nat}(h:Est B u u1 y1 y0 q r)(hy:0<y1 * B+y0)(hy0:y0<B)(hr:B≤r)(hq:q≤B):q=(u * B+u1) / (y1 * B+y0):=by
 refine est_done h hy ?_;have h1:q * y0≤B * y0:=Nat.mul_le_mul_right _ hq;have h3:B * y0≤B * B:=Nat.mul_le_mul_left _ (by omega);have h2:B * B≤B * r:=Nat.mul_le_mul_left _ hr;omega
theorem two_digits(B N1 n1 n0 Y:Nat):((N1 * B+n1)%Y * B+n0)%Y=((N1 * B+n1) * B+n0)%Y:=by
 rw[Nat.add_mod,Nat.mod_mul_mod,←Nat.add_mod]
theorem scaled_rem(N y s:Nat):(N * 2 ^ s)%(y * 2 ^ s) / 2 ^ s=N%y:=by
 rw[Nat.mul_mod_mul_right,Nat.mul_div_cancel _ (Nat.pow_pos (by omega))]
set_option maxRecDepth 100000
set_option maxHeartbeats 8000000
theorem wrapU(z:Int):IntKind.u64.wrap z=z%18446744073709551616:=by simp[IntKind.wrap,IntKind.bits,IntKind.signed]
structure DivW (hi lo y s Y y1 y0 H u L n1 n0 Q1 U21 Q0 R rem:Nat):Prop where
 eY:IntKind.u64.wrap ((y:Int) * 2 ^ s)=(Y:Int)
 e9:(Y:Int) / 4294967296=(y1:Int)
 e10:bits .and .u64 (Y:Int) 4294967295=(y0:Int)
 eH:IntKind.u64.wrap ((hi:Int) * 2 ^ s)=(H:Int)
 e11:bits .or .u64 (H:Int) ((lo:Int) / 2 ^ (64 - s))=(u:Int)
 e12:IntKind.u64.wrap ((lo:Int) * 2 ^ s)=(L:Int)
 e13:(L:Int) / 4294967296=(n1:Int)
 e14:bits .and .u64 (L:Int) 4294967295=(n0:Int)
 by1:y1<4294967296
 by2:4294967296≤2 * y1
 by0:y0<4294967296
 bn1:n1<4294967296
 bn0:n0<4294967296
 bY:Y=y1 * 4294967296+y0
 bu:u<Y
 hQ1:Q1=(u * 4294967296+n1) / Y
 hU21:U21=(u * 4294967296+n1)%Y
 hQ0:Q0=(U21 * 4294967296+n0) / Y
 hR:R=(U21 * 4294967296+n0)%Y
 e9':(R:Int) / 2 ^ s=(rem:Int)
theorem est_mul{q y0:Nat}(hq:q≤4294967297)(hy:y0<4294967296):IntKind.u64.wrap ((q:Int) * (y0:Int))=((q * y0:Nat):Int):=by
 rw[show (q:Int) * (y0:Int)=((q * y0:Nat):Int)from by simp];apply u64_wrap;have h1:q * y0≤4294967297 * 4294967295:=Nat.mul_le_mul hq (by omega);omega
theorem rest_word{u n1 Q Y:Nat}(hQ:Q=(u * 4294967296+n1) / Y)(hY:Y<18446744073709551616)(h0:0<Y) :
 IntKind.u64.wrap (IntKind.u64.wrap (IntKind.u64.wrap ((u:Int) * 4294967296)+(n1:Int)) - IntKind.u64.wrap ((Q:Int) * (Y:Int)))=(((u * 4294967296+n1)%Y:Nat):Int):=by
 have h1:=Nat.div_add_mod (u * 4294967296+n1) Y;have h2:=Nat.mod_lt (u * 4294967296+n1) h0;rw[←hQ,Nat.mul_comm]at h1;have e:(Q:Int) * (Y:Int)=((Q * Y:Nat):Int):=by simp
 rw[e];generalize Q * Y=p at *;generalize (u * 4294967296+n1)%Y=r at *;rw[wrapU,wrapU,wrapU,wrapU];omega
theorem start_word{u y1:Nat}(hu:u<18446744073709551616)(h0:0<y1):∃ q p r:Nat,IntKind.u64.wrap ((u:Int) / (y1:Int))=(q:Int)∧IntKind.u64.wrap ((q:Int) * (y1:Int))=(p:Int)∧IntKind.u64.wrap ((u:Int) - (p:Int))=(r:Int)∧q=u / y1∧r=u%y1:=by
 have h1:=Nat.div_add_mod u y1;have h3:u / y1≤u:=Nat.div_le_self _ _;rw[Nat.mul_comm]at h1;refine⟨u / y1,u / y1 * y1,u%y1,u64_wrap (u / y1) (by omega),?_,?_,rfl,rfl⟩
 · rw[show ((u / y1:Nat):Int) * (y1:Int)=((u / y1 * y1:Nat):Int)from by simp];exact u64_wrap _ (by omega)
 · generalize u / y1 * y1=p at *;generalize u%y1=r at *;rw[wrapU];omega
theorem div64_core(hi lo y s Y y1 y0 H u L n1 n0 Q1 U21 Q0 R rem:Nat)(hd:DivW hi lo y s Y y1 y0 H u L n1 n0 Q1 U21 Q0 R rem)(hs:64 - (Lib.bitLen y:Int)=s)(hs63:s≤63)(hy8:y<18446744073709551616)(hlo:lo<18446744073709551616)(hh:hi<y)(h0:0<hi)(w:World) :
 Calls Tryz.prog 128 #[.int .u64 hi,.int .u64 lo,.int .u64 y] w (RetQ (.tuple #[.int .u64 ((Q1 * 4294967296+Q0:Nat):Int),.int .u64 rem]) w):=by
 have hy1:((y:Int)==0)=false:=beq_eq_false_iff_ne.2 (by omega);have hh1:((hi:Int)==0)=false:=beq_eq_false_iff_ne.2 (by omega);have hh2:¬ ((y:Int)≤(hi:Int)):=by omega
 have HS:=Hq hs;have HY8:=Hq hy8;have HD:=Hq hd;have eY:=hd.eY;have e9:=hd.e9;have e10:=hd.e10;have eH:=hd.eH;have e11:=hd.e11;have e12:=hd.e12;have e13:=hd.e13;have e14:=hd.e14;have by1:=hd.by1;have by2:=hd.by2;have by0:=hd.by0;have bn1:=hd.bn1;have bn0:=hd.bn0;have hny:¬ (y1=0):=by omega
 have hny':(0:Int)<(y1:Int):=by omega
 clear hs hy8 hd;go_enter Tryz.func128,Tryz.ntmps128;go_wp2_with fail;refine(Tryz.bits_LeadingZeros64 (y:Int) _ (by omega) (by have:=HY8.out;omega)).mono ?_;rintro e w1 ⟨rfl,rfl⟩;rw[Int.toNat_natCast,HS.out];have hs0:(0:Int)≤(s:Int):=by omega
 have hs3:(s:Int)≤63:=by omega
 have hu8:u<18446744073709551616:=by have:=HD.out.bu;have:=HD.out.bY;omega
 obtain⟨qs,ps,rs,g1,g2,g3,hq,hr⟩:=start_word hu8 (show 0<y1 by omega);have HQ:=Hq hq;have HR:=Hq hr;have HBU:=Hq (show u<y1 * 4294967296+y0 from by rw[←HD.out.bY];exact HD.out.bu);have HPY:=Hq (show 0<y1 * 4294967296+y0 from by omega);have HQQ:=Hq (show Q1=(u * 4294967296+n1) / (y1 * 4294967296+y0)from by rw[←HD.out.bY];exact HD.out.hQ1);clear hq hr;go_upto_block 0 with(fail)
 go_cut [15] (fun q wx=>q=.int .u64 (Q1:Int)∧wx=w1);case first =>
  go_wp2
  go_loop [15,16] (fun q r=>∃ q' r':Nat,q=.int .u64 q'∧r=.int .u64 r'∧Est 4294967296 u n1 y1 y0 q' r'∧r'<4294967296) (fun q _=>(intOf q).toNat)
  case atStart=>exact⟨qs,rs,rfl,rfl,by rw[HQ.out,HR.out];exact est_start bn1 by2 by0 HBU.out,by rw[HR.out];exact Nat.lt_of_lt_of_le (Nat.mod_lt _ (by omega)) (by omega)⟩
  case round =>
   obtain⟨q,r,rfl,rfl,hE,hr⟩:=hrel;obtain⟨a,ha⟩:∃ a,a=q * y0:=⟨_,rfl⟩;have hem:IntKind.u64.wrap ((q:Int) * (y0:Int))=(a:Int):=by rw[ha];exact est_mul hE.le by0
   have HA:=Hq ha;have hql:q≤4294967297:=hE.le;have HE:=Hq hE;clear ha hE;have HRR:=Hq hr;have HQL:=Hq hql;have HB1:=Hq by1;have HB2:=Hq by2;have HB0:=Hq by0;have HN:=Hq bn1;have hr':(r:Int)<4294967296:=by omega
   have hq':(q:Int)≤4294967297:=by omega
   have hy1':(y1:Int)<4294967296:=by omega
   have hn':(n1:Int)<4294967296:=by omega
   clear hr hql by1 by2 by0 bn1 bn0 hny;by_cases ht:(4294967296:Int)≤(q:Int)∨(4294967296:Int) * (r:Int)+(n1:Int)<(a:Int)
   · obtain⟨h1,hE'⟩:=est_less HE.out HN.out HBU.out (by rw[←HA.out];omega);have HE':=Hq hE';have h1':(1:Int)≤(q:Int):=by omega
     clear hE';by_cases hb:(4294967296:Int)≤(r:Int)+(y1:Int)
     · have HF:=Hq (est_break HE'.out HPY.out HB0.out (by omega) (by omega));by_cases h2:(4294967296:Int)≤(q:Int)
       · clear ht;go_wp2;go_meet;exact⟨by rw[HQQ.out,←HF.out];go_num,rfl⟩
       · have ht2:(4294967296:Int) * (r:Int)+(n1:Int)<(a:Int):=by omega
         clear ht;go_wp2;go_meet;exact⟨by rw[HQQ.out,←HF.out];go_num,rfl⟩
     · by_cases h2:(4294967296:Int)≤(q:Int)
       · clear ht;go_wp2;go_round;case rel=>exact⟨q - 1,r+y1,by go_num,by go_num,HE'.out,by omega⟩
         case measure=>simp[intOf];omega
       · have ht2:(4294967296:Int) * (r:Int)+(n1:Int)<(a:Int):=by omega
         clear ht;go_wp2;go_round;case rel=>exact⟨q - 1,r+y1,by go_num,by go_num,HE'.out,by omega⟩
         case measure=>simp[intOf];omega
   · have h1:¬ ((4294967296:Int)≤(q:Int)):=by omega
     have h2:¬ ((4294967296:Int) * (r:Int)+(n1:Int)<(a:Int)):=by omega
     have HF:=Hq (est_done HE.out HPY.out (by rw[←HA.out];omega));clear ht;go_wp2;go_meet;exact⟨by rw[HQQ.out,←HF.out],rfl⟩
 case rest =>
  obtain⟨rfl,rfl⟩:=hcut;have hY8:Y<18446744073709551616:=by have:=HD.out.bY;omega
  have hY0:0<Y:=by have:=HD.out.bY;omega
  have er1:IntKind.u64.wrap (IntKind.u64.wrap (IntKind.u64.wrap ((u:Int) * 4294967296)+(n1:Int)) - IntKind.u64.wrap ((Q1:Int) * (Y:Int)))=(U21:Int):=by rw[HD.out.hU21];exact rest_word HD.out.hQ1 hY8 hY0
  have er2:IntKind.u64.wrap (IntKind.u64.wrap (IntKind.u64.wrap ((U21:Int) * 4294967296)+(n0:Int)) - IntKind.u64.wrap ((Q0:Int) * (Y:Int)))=(R:Int):=by rw[HD.out.hR];exact rest_word HD.out.hQ0 hY8 hY0
  have hUY:U21<Y:=by rw[HD.out.hU21];exact Nat.mod_lt _ hY0
  obtain⟨qs,ps,rs,k1,k2,k3,hq,hr⟩:=start_word (Nat.lt_trans hUY hY8) (show 0<y1 by omega);have HQ:=Hq hq;have HR:=Hq hr;have HBU:=Hq (show U21<y1 * 4294967296+y0 from by rw[←HD.out.bY];exact hUY);have hq1:Q1<4294967296:=by rw[HQQ.out];exact est_digit bn1 (by rw[←HD.out.bY];exact HD.out.bu)
  have HQQ:=Hq (show Q0=(U21 * 4294967296+n0) / (y1 * 4294967296+y0)from by rw[←HD.out.bY];exact HD.out.hQ0);have hq0:Q0<4294967296:=by rw[HQQ.out];exact est_digit bn0 HBU.out
  have hq1':(Q1:Int)<4294967296:=by omega
  have hq0':(Q0:Int)<4294967296:=by omega
  have hU0:(0:Int)≤(U21:Int):=by omega
  have e9':=HD.out.e9';clear hq hr hY8 hUY hq1 hq0 g1 g2 g3 hu8;go_upto_block 2 with(fail)
  go_cut [18] (fun q wx=>q=.int .u64 (Q0:Int)∧wx=wc);case first =>
   go_wp2
   go_loop [18,16] (fun q r=>∃ q' r':Nat,q=.int .u64 q'∧r=.int .u64 r'∧Est 4294967296 U21 n0 y1 y0 q' r'∧r'<4294967296) (fun q _=>(intOf q).toNat)
   case atStart=>exact⟨qs,rs,rfl,rfl,by rw[HQ.out,HR.out];exact est_start bn0 by2 by0 HBU.out,by rw[HR.out];exact Nat.lt_of_lt_of_le (Nat.mod_lt _ (by omega)) (by omega)⟩
   case round =>
    obtain⟨q,r,rfl,rfl,hE,hr⟩:=hrel;obtain⟨a,ha⟩:∃ a,a=q * y0:=⟨_,rfl⟩;have hem:IntKind.u64.wrap ((q:Int) * (y0:Int))=(a:Int):=by rw[ha];exact est_mul hE.le by0
    have HA:=Hq ha;have hql:q≤4294967297:=hE.le;have HE:=Hq hE;clear ha hE;have HRR:=Hq hr;have HQL:=Hq hql;have HB1:=Hq by1;have HB2:=Hq by2;have HB0:=Hq by0;have HN:=Hq bn0;have hr':(r:Int)<4294967296:=by omega
    have hq':(q:Int)≤4294967297:=by omega
    have hy1':(y1:Int)<4294967296:=by omega
    have hn':(n0:Int)<4294967296:=by omega
    clear hr hql by1 by2 by0 bn1 bn0 hny;by_cases ht:(4294967296:Int)≤(q:Int)∨(4294967296:Int) * (r:Int)+(n0:Int)<(a:Int)
    · obtain⟨h1,hE'⟩:=est_less HE.out HN.out HBU.out (by rw[←HA.out];omega);have HE':=Hq hE';have h1':(1:Int)≤(q:Int):=by omega
      clear hE';by_cases hb:(4294967296:Int)≤(r:Int)+(y1:Int)
      · have HF:=Hq (est_break HE'.out HPY.out HB0.out (by omega) (by omega));by_cases h2:(4294967296:Int)≤(q:Int)
        · clear ht;go_wp2;go_meet;exact⟨by rw[HQQ.out,←HF.out];go_num,rfl⟩
        · have ht2:(4294967296:Int) * (r:Int)+(n0:Int)<(a:Int):=by omega
          clear ht;go_wp2;go_meet;exact⟨by rw[HQQ.out,←HF.out];go_num,rfl⟩
      · by_cases h2:(4294967296:Int)≤(q:Int)
        · clear ht;go_wp2;go_round;case rel=>exact⟨q - 1,r+y1,by go_num,by go_num,HE'.out,by omega⟩
          case measure=>simp[intOf];omega
        · have ht2:(4294967296:Int) * (r:Int)+(n0:Int)<(a:Int):=by omega
          clear ht;go_wp2;go_round;case rel=>exact⟨q - 1,r+y1,by go_num,by go_num,HE'.out,by omega⟩
          case measure=>simp[intOf];omega
    · have h1:¬ ((4294967296:Int)≤(q:Int)):=by omega
      have h2:¬ ((4294967296:Int) * (r:Int)+(n0:Int)<(a:Int)):=by omega
      have HF:=Hq (est_done HE.out HPY.out (by rw[←HA.out];omega));clear ht;go_wp2;go_meet;exact⟨by rw[HQQ.out,←HF.out],rfl⟩
  case rest =>
   obtain⟨rfl,rfl⟩:=hcut;go_wp2;go_ret2;exact⟨rfl,rfl⟩
theorem bitLen_spec:∀(f x:Nat),x<2 ^ f→0<x→∃ L,Lib.bitLenAux f x=L+1∧2 ^ L≤x∧x<2 ^ (L+1)∧L<f
 | 0,x,h,h0=>by simp at h;omega
 | f+1,x,h,h0=>by
  unfold Lib.bitLenAux;rw[if_neg (by omega)];by_cases h1:x / 2=0
  · have : x=1:=by omega
    subst this;refine⟨0,?_,by simp,by simp,by omega⟩;rw[h1];cases f<;>simp[Lib.bitLenAux]
  · obtain⟨L,h2,h3,h4,h5⟩:=bitLen_spec f (x / 2) (by rw[Nat.pow_succ]at h;omega) (by omega);refine⟨L+1,by rw[h2];omega,?_,?_,by omega⟩
    · rw[Nat.pow_succ];omega
    · rw[Nat.pow_succ];omega
theorem u64_or_join{s H l:Nat}(hH:H%2 ^ s=0)(hl:l<2 ^ s)(h1:H<18446744073709551616)(h2:l<18446744073709551616):bits .or .u64 (H:Int) (l:Int)=((H+l:Nat):Int):=by
 rw[u64_or_nat _ _ h1 h2,nat_join s H l hH hl]
theorem u64_low{L:Nat}(h:L<18446744073709551616):bits .and .u64 (L:Int) 4294967295=((L%4294967296:Nat):Int):=by
 have h2:=u64_and_nat L 4294967295 h (by omega);rw[show L &&& 4294967295=L%4294967296 from Nat.and_two_pow_sub_one_eq_mod L 32]at h2;exact h2
theorem scaled{hi lo P Q:Nat}(hPQ:P * Q=18446744073709551616)(hQ:0<Q)(hP:0<P):hi * P * 18446744073709551616+lo / Q * 18446744073709551616+lo * P%18446744073709551616=(hi * 18446744073709551616+lo) * P:=by
 have h1:lo * P / 18446744073709551616=lo / Q:=(by rw[←hPQ,Nat.mul_comm P Q,Nat.mul_div_mul_right _ _ hP]);have h2:=Nat.div_add_mod (lo * P) 18446744073709551616;rw[h1]at h2;rw[Nat.add_mul,Nat.mul_right_comm hi 18446744073709551616 P];omega
theorem divW_of(hi lo y L s:Nat)(h1:2 ^ L≤y)(h2:y<2 ^ (L+1))(hs:L+s=63)(hlo:lo<18446744073709551616)(hh:hi<y) :
 ∃ Y y1 y0 H u LL n1 n0 Q1 U21 Q0 R,DivW hi lo y s Y y1 y0 H u LL n1 n0 Q1 U21 Q0 R ((hi * 18446744073709551616+lo)%y):=by
 obtain⟨P,hP⟩:∃ P,P=2 ^ s:=⟨_,rfl⟩;obtain⟨Q,hQ⟩:∃ Q,Q=2 ^ (64 - s):=⟨_,rfl⟩;have hP0:0<P:=by rw[hP];exact Nat.two_pow_pos s
 have hQ0:0<Q:=by rw[hQ];exact Nat.two_pow_pos _
 have hPQ:P * Q=18446744073709551616:=by rw[hP,hQ,←Nat.pow_add,show s+(64 - s)=64 from by omega]
 have hY1:9223372036854775808≤y * P:=(by have:=Nat.mul_le_mul_right P h1;rw[hP,←Nat.pow_add,hs]at this;rw[hP];exact this);have hY2:y * P<18446744073709551616:=(by have:=Nat.mul_lt_mul_of_pos_right h2 hP0;rw[hP,←Nat.pow_add,show L+1+s=64 from by omega]at this;rw[hP];exact this);have hH:hi * P<y * P:=Nat.mul_lt_mul_of_pos_right hh hP0;have hl:lo / Q<P:=(by rw[Nat.div_lt_iff_lt_mul hQ0];omega);have hHP:hi * P+P≤y * P:=by rw[←Nat.succ_mul];exact Nat.mul_le_mul_right _ hh
 have hscal:=scaled (hi:=hi) (lo:=lo) hPQ hQ0 hP0;have hdl:lo / Q≤lo:=Nat.div_le_self _ _;have ePi:((2:Int) ^ s)=(P:Int):=by rw[hP];simp
 have eQi:((2:Int) ^ (64 - s))=(Q:Int):=by rw[hQ];simp
 have hrem:=scaled_rem (hi * 18446744073709551616+lo) y s;rw[←hP]at hrem;generalize hYY:y * P=Y at *;generalize hHH:hi * P=H at *;have hLL:lo * P%18446744073709551616<18446744073709551616:=Nat.mod_lt _ (by decide);generalize hL2:lo * P%18446744073709551616=LL at *;generalize hd:lo / Q=d at *;generalize hN:(hi * 18446744073709551616+lo) * P=N at *;have hfin:((H+d) * 4294967296+LL / 4294967296) * 4294967296+LL%4294967296=N:=(by have e1:=Nat.div_add_mod LL 4294967296;rw[Nat.add_mul,Nat.mul_assoc,Nat.add_assoc,Nat.mul_comm (LL / 4294967296),e1,←hscal,Nat.add_mul]);refine⟨Y,Y / 4294967296,Y%4294967296,H,H+d,LL,LL / 4294967296,LL%4294967296,((H+d) * 4294967296+LL / 4294967296) / Y,((H+d) * 4294967296+LL / 4294967296)%Y,
  (((H+d) * 4294967296+LL / 4294967296)%Y * 4294967296+LL%4294967296) / Y,(((H+d) * 4294967296+LL / 4294967296)%Y * 4294967296+LL%4294967296)%Y,?_⟩
 refine { eY:=?_,e9:=by omega,e10:=u64_low hY2,eH:=?_,e11:=?_,e12:=?_,e13:=by omega,e14:=u64_low hLL,by1:=by omega,by2:=by omega,by0:=Nat.mod_lt _ (by omega),bn1:=by omega,bn0:=Nat.mod_lt _ (by omega),bY:=by omega,bu:=by omega,hQ1:=rfl,hU21:=rfl,hQ0:=rfl,hR:=rfl,e9':=?_ }
 · rw[ePi,show (y:Int) * (P:Int)=((y * P:Nat):Int)from by simp,hYY];exact u64_wrap _ hY2
 · rw[ePi,show (hi:Int) * (P:Int)=((hi * P:Nat):Int)from by simp,hHH];exact u64_wrap _ (by omega)
 · rw[eQi,show (lo:Int) / (Q:Int)=((lo / Q:Nat):Int)from by simp,hd];exact u64_or_join (s:=s) (by rw[←hHH,hP,Nat.mul_mod_left]) (by rw[←hP];exact hl) (by omega) (by omega)
 · rw[ePi,show (lo:Int) * (P:Int)=((lo * P:Nat):Int)from by simp,wrapU];rw[←hL2];simp
 · rw[two_digits,hfin,ePi];refine(Int.natCast_ediv _ _).symm.trans ?_;rw[hrem]
theorem rq_quiet{v:Value}{w:World}{f:FuncId}{args:Array Value}(h:Calls Tryz.prog f args w (RetQ v w)):Calls Tryz.prog f args w (Ret v w):=h.mono fun e w' ⟨h1,h2⟩=>⟨h1,by rw[←h2];exact Below.refl _ _⟩
def RetR(hi lo y:Nat)(w:World)(e:Ending)(w':World):Prop:=∃ q:Nat,e=.returned (.tuple #[.int .u64 q,.int .u64 (((hi * 18446744073709551616+lo)%y:Nat):Int)])∧Below w.heap.size w w'
theorem bits_Div64_zero(lo y:Nat)(hy8:y<18446744073709551616)(hlo:lo<18446744073709551616)(hh:0<y)(w:World) :
 Calls Tryz.prog 128 #[.int .u64 0,.int .u64 lo,.int .u64 y] w (Ret (.tuple #[.int .u64 ((lo / y:Nat):Int),.int .u64 ((lo%y:Nat):Int)]) w):=by
 have hy1:((y:Int)==0)=false:=beq_eq_false_iff_ne.2 (by omega);have hy3:¬ (y=0):=by omega
 have hy2:(0:Int)<(y:Int):=by omega
 have hq8:lo / y<18446744073709551616:=Nat.lt_of_le_of_lt (Nat.div_le_self lo y) hlo;have hr8:lo%y<18446744073709551616:=Nat.lt_trans (Nat.mod_lt lo hh) hy8;have hwq:IntKind.u64.wrap ((lo:Int) / (y:Int))=(lo:Int) / (y:Int):=u64_wrap (lo / y) hq8;have hwr:IntKind.u64.wrap ((lo:Int)%(y:Int))=(lo:Int)%(y:Int):=u64_wrap (lo%y) hr8;clear hq8 hr8 hy8 hlo;go_enter Tryz.func128,Tryz.ntmps128;go_wp2
 go_quiet (fail)
 go_wp2;go_ret2;exact⟨rfl,below_dN blr _⟩
theorem bits_Div64(hi lo y:Nat)(hy8:y<18446744073709551616)(hlo:lo<18446744073709551616)(hh:hi<y)(w:World) :
 Calls Tryz.prog 128 #[.int .u64 hi,.int .u64 lo,.int .u64 y] w (RetR hi lo y w):=by
 rcases Nat.eq_zero_or_pos hi with h0 | h0
 · subst h0;refine(bits_Div64_zero lo y hy8 hlo hh w).mono fun e w' ⟨h1,h2⟩=>⟨lo / y,?_,h2⟩;rw[h1,Nat.zero_mul,Nat.zero_add]
 · obtain⟨L,h1,h2,h3,h4⟩:=bitLen_spec 64 y hy8 (by omega);obtain⟨Y,y1,y0,H,u,LL,n1,n0,Q1,U21,Q0,R,hd⟩:=divW_of hi lo y L (63 - L) h2 h3 (by omega) hlo hh;have hs:64 - (Lib.bitLen y:Int)=((63 - L:Nat):Int):=(by unfold Lib.bitLen;rw[h1];omega);refine(div64_core hi lo y (63 - L) Y y1 y0 H u LL n1 n0 Q1 U21 Q0 R _ hd hs (by omega) hy8 hlo hh h0 w).mono fun e w' ⟨h1,h2⟩=>⟨_,h1,?_⟩;rw[←h2];exact Below.refl _ _
theorem bits_Rem64(hi lo y:Nat)(hi8:hi<18446744073709551616)(hy8:y<18446744073709551616)(hlo:lo<18446744073709551616)(hy:0<y)(w:World) :
 Calls Tryz.prog 105 #[.int .u64 hi,.int .u64 lo,.int .u64 y] w (Ret (.int .u64 (((hi * 18446744073709551616+lo)%y:Nat):Int)) w):=by
 have hy1:((y:Int)==0)=false:=beq_eq_false_iff_ne.2 (by omega);have hy3:¬ (y=0):=by omega
 have hy2:(0:Int)<(y:Int):=by omega
 have hr8:hi%y<18446744073709551616:=Nat.lt_trans (Nat.mod_lt hi hy) hy8;have hwr:IntKind.u64.wrap ((hi:Int)%(y:Int))=(hi:Int)%(y:Int):=u64_wrap (hi%y) hr8;have HD:=Hq (bits_Div64 (hi%y) lo y hy8 hlo (Nat.mod_lt hi hy));have HE:=Hq (show (hi%y * 18446744073709551616+lo)%y=(hi * 18446744073709551616+lo)%y from by rw[Nat.add_mod,Nat.mod_mul_mod,←Nat.add_mod]);clear hr8 hy8 hlo hi8;go_enter Tryz.func105,Tryz.ntmps105;go_wp2_with fail;refine(HD.out _).mono ?_;rintro e w1 ⟨q,rfl,hb⟩;have HB:=Hq hb;rw[HE.out];obtain⟨r,hr⟩:∃ r,(hi * 18446744073709551616+lo)%y=r:=⟨_,rfl⟩;rw[hr];have HRR:=Hq hr;clear hb hr;go_wp2;go_ret;exact⟨by rw[HRR.out];rfl,HB.out⟩
end Go.Proofs.YtfbmbledklbfgaaGreatDoor
