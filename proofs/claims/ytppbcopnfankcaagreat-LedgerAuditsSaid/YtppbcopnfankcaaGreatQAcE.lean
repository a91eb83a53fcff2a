import Derived.Test.YtppbcopnfankcaaGreatQShelc
import Derived.Test.YtppbcopnfankcaaGreatQSet
set_option linter.unusedVariables false
set_option linter.unusedSimpArgs false
namespace Go.Proofs.YtppbcopnfankcaaGreat
set_option maxRecDepth 100000
open Go.RowKit
open Go.Sort Go.Shelf
abbrev VN:={s:ByteArray // zc s=true}
instance : Inhabited VN:=⟨⟨⟨#[]⟩,by decide⟩⟩
def VN.enc(x:VN):Value:=.string x.1
def VN.cf(x y:VN):Int:=cmpI (num x.1) (num y.1)
theorem VN.lt_iff(x y:VN):ltOf VN.cf x y=decide (num x.1<num y.1):=decide_eq_decide.2 kz
theorem VN.swo:SWO (ltOf VN.cf) where
 irrefl x:=by rw[VN.lt_iff];exact decide_eq_false (Nat.lt_irrefl _)
 trans x y z h1 h2:=by rw[VN.lt_iff]at *;simp only[decide_eq_true_eq]at *;omega
 ntrans x y z h1 h2:=by rw[VN.lt_iff]at *;simp only[decide_eq_false_iff_not]at *;omega
theorem VN.reads(blk off size:Nat)(w:World):CmpReads Tryz.prog 65 #[] VN.enc VN.cf blk off size w:=by
 intro m os dk _ x y;have h:=jw x.1 y.1 (by have:=zy x.2;omega) (by have:=zy y.2;omega) (sortWorld VN.enc w blk off m dk os);rw[zi4 x.2 y.2]at h;exact h.mono fun e w' ⟨he,hw⟩=>⟨he,0,hw.symm⟩
theorem zuv(w:World):Calls Tryz.prog 184 #[.slice none 0 0,.int .i64 0,.int .i64 0,.func (.func 65) #[] #[]] w (fun e w'=>e=.returned (.tuple #[])∧w'=w):=by
 go_enter Tryz.func184,Tryz.ntmps184;go_wp2;refine wp_loop_rounds 1 ?_;rw[rounds_succ];go_wp2;go_end0;exact⟨rfl,rfl⟩
theorem zub(w:World)(l:Int):Calls Tryz.prog 127 #[.slice none 0 0,.int .i64 0,.int .i64 0,.int .i64 l,.func (.func 65) #[] #[]] w (fun e w'=>e=.returned (.tuple #[])∧w'=w):=by
 go_enter Tryz.func127,Tryz.ntmps127;go_wp2_with fail;refine wp_loop_rounds 1 ?_;rw[rounds_succ];go_wp2_with fail;refine(zuv _).mono ?_;rintro e w1 ⟨rfl,rfl⟩;go_wp2;exact bodyPost_ret (v:=.tuple #[]) (by simp[results,Tryz.results127,go_sem]) rfl ⟨rfl,rfl⟩
theorem zqt(w:World):Calls Tryz.prog 81 #[.slice none 0 0,.func (.func 65) #[] #[]] w (fun e w'=>e=.returned (.tuple #[])∧w'=w):=by
 go_enter Tryz.func81,Tryz.ntmps81;go_wp2_with fail;refine(Tryz.bits_Len 0 _ (by decide) (by decide)).mono ?_;rintro e w1 ⟨rfl,rfl⟩;go_wp2_with fail;refine(zub _ _).mono ?_;rintro e w1 ⟨rfl,rfl⟩;go_wp2;go_end0;exact⟨rfl,rfl⟩
theorem zqg{B:Nat}(w:World)(blk n:Nat)(d:Array VN)(os:Array Obj)(hB:B≤blk)(hblk:blk<w.heap.size):Go.RowKit.Below B w (sortWorld VN.enc w blk 0 n d os):=by
 refine⟨rfl,rfl,rfl,?_,fun k hk=>?_⟩
 · unfold sortWorld putRow mapBlock Sort.ahead;rw[Go.Sort.size_grow];simp
 · unfold sortWorld;rw[Go.Sort.heap_grow_old _ _ (by unfold putRow mapBlock Sort.ahead;simp;omega)];unfold putRow mapBlock Sort.ahead;simp only[Array.getElem?_modify];rw[if_neg (by omega)]
theorem ztp(d:Array VN)(blk cap:Nat)(w:World)(hH:Holds VN.enc w blk 0 d)(hblk:blk<w.heap.size)(hsz:d.size<4611686018427387904)(hcap:d.size≤cap)(hc2:cap≤9223372036854775807) :
 Calls Tryz.prog 81 #[.slice (some ⟨blk,0,none⟩) d.size cap,.func (.func 65) #[] #[]] w (fun e w'=>e=.returned (.tuple #[])∧∃ d':Array VN,PermIn 0 d.size d d'∧SortedIn (ltOf VN.cf) 0 d.size d'∧SlN w' (some ⟨blk,0,none⟩) d.size cap (d'.toList.map (fun x=>x.1))∧∀ B,B≤blk→Go.RowKit.Below B w w'):=by
 have eg:∀ args w,(callFunc 65 args).run Tryz.prog w=.ok (.enter 65 args) w:=enters_of Tryz.func65 (by kernel_rfl) rfl;have h:=Any.slices_SortFunc Tryz.sortN VN.enc (fun _=>rfl) VN.cf VN.swo 65 #[] blk 0 cap d w eg (VN.reads blk 0 d.size w).lays hH hblk hsz;refine(show Calls _ 81 _ _ _ from h).mono ?_;rintro e w' ⟨rfl,d',n,os,hp,hs,rfl⟩;have hsw:SW VN.enc w blk 0 d' (sortWorld VN.enc w blk 0 n d' os):=⟨n,os,rfl⟩;have hh:=hsw.holds hblk hH hp.1;refine⟨rfl,d',hp,hs,⟨by simp[hp.1],hcap,hc2,blk,0,fun _=>rfl,fun k s hk=>?_⟩,fun B hB=>?_⟩
 · rw[List.getElem?_map,Option.map_eq_some_iff]at hk;obtain⟨x,hx,rfl⟩:=hk;rw[Array.getElem?_toList]at hx;obtain⟨hlt,hx⟩:=Array.getElem?_eq_some_iff.1 hx;have:=(hh k hlt).1;rw[getElem!_pos d' k hlt,hx]at this;exact this
 · exact zqg w blk n d' os hB hblk
theorem zl7{a b:ByteArray}(h:a.toList=b.toList):a=b:=by
 rw[ByteArray.toList_eq,ByteArray.toList_eq]at h;rw[←xd a,←xd b,h]
theorem za6{l:List ByteArray}{x:ByteArray}:memB l x=true↔x∈l:=by
 unfold memB;rw[List.any_eq_true];constructor
 · rintro⟨y,hy,h⟩;rw[zl7 (beq_iff_eq.1 h)];exact hy
 · intro h;exact⟨x,h,by simp⟩
def Asc(l:List ByteArray):Prop:=l.Pairwise (fun a b=>num a<num b)
theorem zv3{l:List ByteArray}(h:ascB l=true):Asc l:=by
 have h1:=zek.1 h;have h2:∀(n i:Nat) a b,l[i]? =some a→l[i+n+1]? =some b→num a<num b:=by
  intro n
  induction n with
  | zero=>intro i a b ha hb;exact h1 i a b ha hb
  | succ n ih =>
   intro i a b ha hb;have hlt:=(List.getElem?_eq_some_iff.1 hb).1;obtain⟨c,hc⟩:∃ c,l[i+n+1]? =some c:=⟨_,List.getElem?_eq_getElem (by omega)⟩;have:=ih i a c ha hc;have:=h1 (i+n+1) c b hc hb;omega
 refine List.pairwise_iff_getElem.2 (fun i j hi hj hij=>?_);refine h2 (j - i - 1) i _ _ (List.getElem?_eq_getElem hi) ?_;rw[show i+(j - i - 1)+1=j by omega];exact List.getElem?_eq_getElem hj
theorem Asc.filter{l:List ByteArray}(h:Asc l)(p:ByteArray→Bool):Asc (l.filter p):=List.Pairwise.filter p h
def ind(l:List ByteArray)(x:ByteArray):Int:=if memB l x=true then 1 else 0
def Dl.zero:Dl:=⟨0,0,[],[],⟨#[]⟩,⟨#[]⟩,⟨#[]⟩,⟨#[]⟩⟩
structure Dl.Good (d:Dl):Prop where
 vad:∀ y∈d.ad,zc y=true
 vrm:∀ y∈d.rm,zc y=true
 aad:Asc d.ad
 arm:Asc d.rm
 dis:∀ x∈d.ad,x∉d.rm
theorem Dl.good{d:Dl}(h:d.form=0):d.Good:=by
 obtain⟨hv,_,ht,_⟩:=d.form_ok h;unfold Dl.twice at ht;simp only[Bool.or_eq_false_iff,Bool.not_eq_false']at ht;refine⟨d.okN_ad hv,d.okN_rm hv,zv3 ht.1.1,zv3 ht.1.2,fun x hx hr=>?_⟩;have:=List.any_eq_false.1 ht.2 x hx;rw[za6]at this;exact this hr
set_option maxRecDepth 100000
set_option maxHeartbeats 2000000
open Go.Maps Go.WideMaps
theorem zcx{P:Program}{H:Type}{e:TypeId}(he:P.underlying e=some .bool){v:Value}{z:DataW H×List MemPlace}(h:plainElem P e v=some z):∃ a,v=.bool a∧z=(.lit (.bool a),[]):=by
 unfold plainElem at h;rw[he]at h;cases v<;>simp at h;exact⟨_,rfl,h.symm⟩
theorem kh{H:Type}{P:Program}(w:World){ops:Array Oper}{rest:List Oper}{o:Oper}{a:Act}{Q:Exit→Act→World→Prop}
 (hg:o.guard=none) (m x:Operand) (t:TypeId) (hop:o.op=Op.lookup t m x false)
 (k e:TypeId) (K:Keyed P k) (ht:P.underlying t=some (.map k e)) (he:P.underlying e=some .bool) (hz:(zeroValue e).run P w=.ok (.bool false) w) (b n:Nat) (D:DataW H)
 (hm:a.eval m=.map (some b)) (hown:w.ownsMap P k (plainElem P e) b n D) (key:Value) (kl:Lit) (hx:a.eval x=key) (hkey:keyOf P k key=some kl)
 (c:Bool) (hat:D.atKey kl (.lit (.bool false))=.lit (.bool c)) (hK:wpList P ops Q rest (a.put o.dst (.bool c)) w) :
 wpList P ops Q (o::rest) a w:=by
 refine wpList_plain hg fun K' hK'=>?_;obtain⟨v,ps,hrun,hv⟩:=hown.lookup K ht hz (plainElem_bool he false) hkey;obtain⟨c',rfl,hc⟩:=zcx he hv;rw[hat]at hc;obtain rfl:c=c':=by
  have h1:=congrArg Prod.fst hc;injection h1 with h1
  injection h1
 unfold Oper.wp;simp[execOp,hop,hm,hx,hrun,Result.andThen];exact hK' _ _ hK
theorem zx1(w:World):(zeroValue 4).run Tryz.prog w=.ok (.bool false) w:=by kernel_rfl
def SetB(w:World)(b n:Nat)(K:List ByteArray):Prop:=∃ D:DataW Unit,w.ownsMap Tryz.prog 22 (plainElem (H:=Unit) Tryz.prog 4) b n D∧∀ s:ByteArray,D.atKey (.string s.data.toList) (.lit (.bool false))=.lit (.bool (memB K s))
theorem SetB.made(w:World):SetB (w.alloc (.map #[] 0)) w.heap.size 0 []:=⟨_,World.ownsMap_made _ _ _ _,fun _=>rfl⟩
theorem zja(K:List ByteArray)(h s:ByteArray):memB (K++[h]) s=(memB K s||decide (s=h)):=by
 rw[Bool.eq_iff_iff,za6,Bool.or_eq_true,za6];simp
theorem SetB.congr{w:World}{b n n':Nat}{K K':List ByteArray}(h:SetB w b n K)(hn:n=n')(hK:K=K'):SetB w b n' K':=by subst hn hK;exact h
theorem ztt{w':World}{b n:Nat}{K:List ByteArray}{h:ByteArray}{D:DataW Unit}(hf:∀ s:ByteArray,D.atKey (.string s.data.toList) (.lit (.bool false))=.lit (.bool (memB K s)))(hm:IsMap D)
 (hown:w'.ownsMap Tryz.prog 22 (plainElem (H:=Unit) Tryz.prog 4) b (n+1) (D.put (.string h.data.toList) (.lit (.bool true)))):SetB w' b (n+1) (K++[h]):=by
 have hk:WideAt.IsKeyLit (.string h.data.toList):=trivial;refine⟨_,hown,fun s=>?_⟩;by_cases e:s=h
 · subst e;rw[atKey_put_same hm hk _ _,zja];simp
 · have hne:(Lit.string s.data.toList)≠(Lit.string h.data.toList):=fun hh=>e (by simp only[Lit.string.injEq]at hh;rw[←xd h,←xd s,hh]);rw[atKey_put_other hne,hf s,zja,decide_eq_false e,Bool.or_false]
open Classical in
noncomputable def ndB(l:List ByteArray):Bool:=decide l.Nodup
theorem nd_t{l:List ByteArray}(h:l.Nodup):ndB l=true:=by unfold ndB;exact decide_eq_true h
theorem nd_f{l:List ByteArray}(h:¬ l.Nodup):ndB l=false:=by unfold ndB;exact decide_eq_false h
theorem zro{l:List ByteArray}{k:Nat}{x:ByteArray}(hn:(l.take k).Nodup)(he:l[k]? =some x)(hx:x∉l.take k):(l.take (k+1)).Nodup:=by
 rw[List.take_add_one,he,Option.toList_some,List.nodup_append];exact⟨hn,by simp,fun a ha b hb=>by rw[List.mem_singleton]at hb;subst hb;exact fun h=>hx (h▸ha)⟩
theorem zvu{l:List ByteArray}{k:Nat}{x:ByteArray}(he:l[k]? =some x)(hx:x∈l.take k):¬ l.Nodup:=by
 intro h;have h1:=h.sublist (List.take_sublist (k+1) l);rw[List.take_add_one,he,Option.toList_some,List.nodup_append]at h1;exact h1.2.2 x hx x (by simp) rfl
def zow(l:List ByteArray)(w:World)(e:Ending)(w':World):Prop:=∃ o,e=.returned (.tuple #[.map o,.int .i64 (if ndB l=true then 0 else 8)])∧Below w.heap.size w w'
theorem zzj(l:List ByteArray)(A:Option Addr)(n c:Nat)(w:World)(hn:n≤100000)(hs:SlN w A n c l)(hz:SzL l):Calls Tryz.prog 83 #[.slice A n c] w (zow l w):=by
 have HSN:=Hq hs;have HNL:=Hq hs.1;have hc1:=hs.2.1;have hc2:=hs.2.2.1;have HZZ:=Hq hz;obtain⟨P,hP⟩:=nm (zow l w);have HP:=Hq (fun e w' h=>hP▸(show zow l w e w' from h));rw[hP];clear hP;have hmm:=@run_makeMap Tryz.prog;clear hs hz;go_enter Tryz.func83,Tryz.ntmps83;go_wp2;clear hmm;go_loopw [10] (fun i wr=>∃ k:Nat,k≤n∧i=.int .i64 k∧(l.take k).Nodup∧SetB wr w.heap.size k (l.take k)∧Below w.heap.size w wr) (fun i _=>n - (intOf i).toNat);case atStart=>exact⟨0,Nat.zero_le _,rfl,by simp,(SetB.made w).congr rfl (by simp),(blr).alloc nlr _⟩
 case round =>
  obtain⟨k,hk,rfl,hnd,hm,hbb⟩:=hrel;have HB:=Hq hbb;have HND:=Hq hnd;by_cases hlt:k<n
  · obtain⟨x,he⟩:∃ x,l[k]? =some x:=⟨_,List.getElem?_eq_getElem (by rw[HNL.out];exact hlt)⟩;obtain⟨b,o,rfl⟩:=HSN.out.head (by omega);have c0:=(HSN.out.kept hbb nlr).get? k he;have HXS:=Hq (show x.size≤maxLen from by have:=HZZ.out x (List.mem_of_getElem? he);unfold maxLen;omega);have HE:=Hq he;obtain⟨D,hown,hf⟩:=hm;have HOWN:=Hq hown;have HF:=Hq hf;have HL:=Hq (show (l.take k++[x])=l.take (k+1)from by rw[List.take_add_one,he,Option.toList_some]);clear hnd hbb he hown hf
    cases hin:memB (l.take k) x with
    | true =>
     have HX:=Hq (za6.1 hin);go_wp2_with (at_lookup;refine kh _ rfl _ _ 140 rfl 22 4 lawN Tryz.underlying140 Tryz.underlying4 (zx1 _) w.heap.size k D rfl HOWN.out (.string x) (.string x.data.toList) rfl (keyN HXS.out) true ((HF.out x).trans (by rw[hin])) ?_);exact(HP.out _ _ ⟨none,by rw[nd_f (zvu HE.out HX.out)];rfl,HB.out⟩)
    | false =>
     have HX:=Hq (show x∉l.take k from fun h=>by rw[za6.2 h]at hin;cases hin);go_wp2_with (first | (at_lookup;refine kh _ rfl _ _ 140 rfl 22 4 lawN Tryz.underlying140 Tryz.underlying4 (zx1 _) w.heap.size k D rfl HOWN.out (.string x) (.string x.data.toList) rfl (keyN HXS.out) false ((HF.out x).trans (by rw[hin])) ?_) | (at_mapUpdate;refine wpList_mapUpdate_own _ rfl _ _ _ 140 rfl 22 4 lawN Tryz.underlying140 _ w.heap.size k D rfl HOWN.out (by unfold maxLen;omega) (.string x) (.bool true) (.string x.data.toList) rfl rfl (keyN HXS.out) (.lit (.bool true)) [] (plainElem_bool Tryz.underlying4 true) ?_));intro w3 hown3 hgrow3;have HM3:=Hq ((ztt HF.out HOWN.out.isMap hown3).congr rfl HL.out);have HB3:=Hq (HB.out.grown hgrow3 HB.out.size (fun k hk=>by simp only[Option.some.injEq]at hk;omega));clear hown3 hgrow3;go_wp2;go_roundw;case rel=>exact⟨k+1,by omega,by go_num,zro HND.out HE.out HX.out,HM3.out,HB3.out⟩
     case measure=>simp[intOf];omega
  · obtain rfl:k=n:=by omega
    have HRR:=Hq (show l.Nodup from by have:=HND.out;rwa[List.take_of_length_le (by have:=HNL.out;omega)]at this);go_wp2;exact(HP.out _ _ ⟨some w.heap.size,by rw[nd_t HRR.out];rfl,HB.out⟩)
theorem SlN.part{w:World}{A:Option Addr}{n c:Nat}{l:List ByteArray}(h:SlN w A n c l){k:Nat}(hk:k≤n):SlN w A k c (l.take k):=by
 obtain⟨h1,h2,h3,b,o,h4,h5⟩:=h;refine⟨by rw[List.length_take];omega,by omega,h3,b,o,fun hp=>h4 (by omega),fun j s hj=>h5 j s ?_⟩;rw[List.getElem?_take]at hj;split at hj
 · exact hj
 · cases hj
theorem zq3(l:List ByteArray)(A:Option Addr)(n c:Nat)(w:World)(hs:SlN w A n c l):Calls Tryz.prog 62 #[.slice A n c] w (Ret (.bool (!ndB l)) w):=by
 have HSN:=Hq hs;have HNL:=Hq hs.1;have hc1:=hs.2.1;have hc2:=hs.2.2.1;obtain⟨R,hR⟩:=nm ((!ndB l));rw[hR];have HR:=Hq hR;clear hs hR;go_enter Tryz.func62,Tryz.ntmps62;go_wp2;go_loopw [3] (fun i wr=>∃ k:Nat,k≤n∧i=.int .i64 k∧(l.take k).Nodup∧Below w.heap.size w wr) (fun i _=>n - (intOf i).toNat);case atStart=>exact⟨0,Nat.zero_le _,rfl,by simp,Below.refl _ _⟩
 case round =>
  obtain⟨k,hk,rfl,hnd,hbb⟩:=hrel;have HB:=Hq hbb;have HND:=Hq hnd;clear hnd;by_cases hlt:k<n
  · obtain⟨x,he⟩:∃ x,l[k]? =some x:=⟨_,List.getElem?_eq_getElem (by rw[HNL.out];exact hlt)⟩;obtain⟨b,o,rfl⟩:=HSN.out.head (by omega);have HE:=Hq he;have hkc:k≤c:=by omega
    have hkn:k≤n:=by omega
    have hc0:¬ c=0:=by omega
    obtain⟨wd,hwd⟩:=nm (wr.drew);have c0:wd.cell? ⟨b,o+k,none⟩=some (.string x):=by rw[←hwd];exact(HSN.out.kept hbb.drew nlr).get? k he
    have HBD:=Hq (show Below w.heap.size w wd from by rw[←hwd];exact hbb.drew);have HC:=Hq (r35_in (l.take k) (some ⟨b,o,none⟩) k c x wd ((HSN.out.kept HBD.out nlr).part (by omega)));clear he hbb
    cases hin:memB (l.take k) x with
    | true =>
     have HX:=Hq (za6.1 hin);rw[hin]at HC;clear hin;go_wp2;refine za 8 (Below (wd).heap.size (wd)) (by kernel_rfl) ?_;rw[hwd];refine rPs 0 10 7 blr ?_;refine rPs 1 11 6 blr ?_;refine rPs 2 12 5 blr ?_;refine rPs 3 13 4 blr ?_;refine rPs 4 14 3 blr ?_;refine rPs 5 15 2 blr ?_;refine rTs 6 16 1 blr (k1 c0) ?_;refine rO 7 0 ?_;intro K7 hK7;go_wp2_with fail;refine HC.out.mono ?_;rintro ev w6 ⟨rfl,rfl⟩;have HB7:=Hq (Below.refl wd.heap.size wd);go_wp2;refine hK7 _ _ (by exact HB7.out) ?_;clear hK7;intro hS_4_7;refine wDn ?_;clear c0;have HRR:=Hq (show R=true from by rw[←HR.out,nd_f (zvu HE.out HX.out)];rfl);go_wp2;go_ret;exact⟨by rw[HRR.out];rfl,HBD.out⟩
    | false =>
     have HX:=Hq (show x∉l.take k from fun h=>by rw[za6.2 h]at hin;cases hin);rw[hin]at HC;clear hin;go_wp2;refine za 8 (Below (wd).heap.size (wd)) (by kernel_rfl) ?_;rw[hwd];refine rPs 0 10 7 blr ?_;refine rPs 1 11 6 blr ?_;refine rPs 2 12 5 blr ?_;refine rPs 3 13 4 blr ?_;refine rPs 4 14 3 blr ?_;refine rPs 5 15 2 blr ?_;refine rTs 6 16 1 blr (k1 c0) ?_;refine rO 7 0 ?_;intro K7 hK7;go_wp2_with fail;refine HC.out.mono ?_;rintro ev w6 ⟨rfl,rfl⟩;have HB7:=Hq (Below.refl wd.heap.size wd);go_wp2;refine hK7 _ _ (by exact HB7.out) ?_;clear hK7;intro hS_4_7;refine wDn ?_;clear c0;go_wp2;go_roundw;case rel=>exact⟨k+1,by omega,by go_num,zro HND.out HE.out HX.out,HBD.out⟩
     case measure=>simp[intOf];omega
  · obtain rfl:k=n:=by omega
    have HRR:=Hq (show R=false from by rw[←HR.out,nd_t (show l.Nodup from by have:=HND.out;rwa[List.take_of_length_le (by have:=HNL.out;omega)]at this)];rfl);go_wp2;go_ret;exact⟨by rw[HRR.out];rfl,hbb⟩
set_option maxRecDepth 100000
set_option maxHeartbeats 4000000
theorem zpd(a m:Nat)(zt:ByteArray)(ham:a<m)(hm8:m<18446744073709551616)(h1:1<m)(hz:jz false zt=true)(w:World):Calls Tryz.prog 210 #[.string (nS a),.agg #[.bool false,.string zt],.string (nS m)] w (Ret (.tuple #[.string (nS (a ^ num zt%m)),.int .i64 0]) w):=by
 have ha8:a<18446744073709551616:=by omega
 have hzv:=zjz hz;have HV1:=Hq (zo (nS a) (by have:=zk ha8;omega));have HV2:=Hq (zo (nS m) (by have:=zk hm8;omega));rw[zj.2 (zg ha8)]at HV1;rw[zj.2 (zg hm8)]at HV2;have HVZ:=Hq (zkr false zt (by unfold zc at hzv;simp at hzv;omega));rw[hz]at HVZ;have hem:=zx (n:=m) (by omega);have HR:=Hq (fun(w:World)=>show Calls Tryz.prog 237 #[.string (nS a),.string zt,.string (nS m)] w (Ret (.string (nS (a ^ num zt%m))) w)from by
  have:=zkq a (num zt) m (zg (by omega)) (jk hzv) hm8 (by omega) w
  rwa[←zu hzv]at this)
 have HB0:=Hq ((Below.refl w.heap.size w).alloc nlr (.cells #[.bool false,.string zt] 156));have hx0:=Bx2.new w (.bool false) (.string zt) 156;obtain⟨W0,hW0⟩:=nm (w.alloc (.cells #[.bool false,.string zt] 156));rw[hW0]at HB0 hx0;have HX0:=Hq hx0;obtain⟨s,hs⟩:=nm (nS a);obtain⟨t,ht⟩:=nm (nS m);unfold zV at *;obtain⟨r,hr⟩:=nm (nS (a ^ num zt%m));rw[hr,hs,ht]at HR;rw[hs]at HV1;rw[ht]at HV2 hem;rw[hr,hs,ht];clear hs ht hr ham hm8 h1 hz hzv ha8 hx0;go_enter Tryz.func210,Tryz.ntmps210;go_wp2_with fail;try rw[hW0]
 clear hW0;refine(HV1.out _).mono ?_;rintro e w1 ⟨rfl,rfl⟩;have c0:=HX0.out.c0;have c1:=HX0.out.c1;go_wp2_with fail;refine(HVZ.out _).mono ?_;rintro e w1 ⟨rfl,hb1⟩;have HB1:=bt HB0 hb1;have hx1:=HX0.out.next hb1;clear hb1 c0 c1;have c0:=hx1.c0;have c1:=hx1.c1;clear hx1;go_wp2_with fail;refine(HV2.out _).mono ?_;rintro e w2 ⟨rfl,rfl⟩;go_wp2_with fail;refine(HR.out _).mono ?_;rintro e w2 ⟨rfl,hb2⟩;have HB2:=bt HB1 hb2;clear hb2;go_wp2;go_ret2;exact⟨rfl,HB2.out⟩
theorem zt4(a m:Nat)(O zt:ByteArray)(ham:a<m)(hm8:m<18446744073709551616)(h1:1<m)(hz:jz false zt=true)(w:World):Calls Tryz.prog 156 #[gV (nS m) O,.string (nS a),.agg #[.bool false,.string zt]] w (Ret (.string (nS (a ^ num zt%m))) w):=by
 have HP:=Hq (zpd a m zt ham hm8 h1 hz);obtain⟨s,hs⟩:=nm (nS a);obtain⟨t,ht⟩:=nm (nS m);obtain⟨r,hr⟩:=nm (nS (a ^ num zt%m));rw[hs,ht,hr]at HP;rw[hs,ht,hr];clear hs ht hr ham hm8 h1 hz;unfold gV;have HB0:=Hq (((Below.refl w.heap.size w).alloc nlr (.cells #[.string t,.string O] 24)).alloc (by simp) (.cells #[.bool false,.string zt] 156));go_enter Tryz.func156,Tryz.ntmps156;go_wp2_with fail;refine(HP.out _).mono ?_;rintro e w1 ⟨rfl,hb1⟩;have HB1:=bt HB0 hb1;clear hb1;go_wp2;go_ret;exact⟨rfl,HB1.out⟩
def GI9(w W:World)(M O:ByteArray)(bt:ByteArray):Prop:=
 Bx2 W w.heap.size (.string M) (.string O) 24∧Bx2 W (w.heap.size+1) (.bool false) (.string bt) 156∧Below w.heap.size w W
theorem GI9.new(w:World)(M O:ByteArray)(bt:ByteArray):GI9 w ((w.alloc (.cells #[.string M,.string O] 24)).alloc (.cells #[.bool false,.string bt] 156)) M O bt:=by
 refine⟨(Bx2.new w _ _ _).next ((blr).alloc nlr _),?_,((Below.refl w.heap.size w).alloc nlr _).alloc (by simp) _⟩;have:=Bx2.new (w.alloc (.cells #[.string M,.string O] 24)) (.bool false) (.string bt) 156;rwa[World.size_alloc]at this
theorem GI9.next{w W W':World}{M O:ByteArray}{bt:ByteArray}(h:GI9 w W M O bt)(hb:Below W.heap.size W W'):GI9 w W' M O bt:=
 ⟨h.1.next hb,h.2.1.next hb,h.2.2.trans (hb.mono (Nat.le_of_lt h.1.lt))⟩
theorem zt5(M O x bt:ByteArray)(hM:M.size≤8)(hO:O.size≤8)(hc:chkK M O=0)(vx:zc x=true)(hx:hasN (num M) (num O) (num x)=true)(vu:zc bt=true)(w:World):Calls Tryz.prog 104 #[.agg #[.string M,.string O],.string x,.agg #[.bool false,.string bt]] w (Ret (.tuple #[.string (nS (pz (num M) (num x) (num bt))),.int .i64 0]) w):=by
 have hz:jz false bt=true:=by unfold jz;simp[vu]
 have HVA:=Hq (zo x (by have:=zy vx;omega));have HVB:=Hq (zkr false bt (by have:=zy vu;omega));have HCK:=Hq (zfb M O hM hO);have HA:=Hq (show ∀ w,Calls Tryz.prog 154 #[.agg #[.string M,.string O],.string x] w (Ret (.bool (hasN (num M) (num O) (num x))) w)from by
  obtain⟨v1,v2,_⟩:=ju hc;have:=zq7 (num M) (num O) (num x) (je hM) (je hO) (jk vx)
  rwa[←zu v1,←zu v2,←zu vx]at this)
 have HMM:=Hq (fun(w:World)=>show Calls Tryz.prog 156 #[.agg #[.string M,.string O],.string x,.agg #[.bool false,.string bt]] w (Ret (.string (nS (num x ^ num bt%num M))) w)from by
  obtain⟨v1,v2,g6⟩:=ju hc;have u1:=zf5 hx g6;have:=zt4 (num x) (num M) O bt u1.1 (je hM) u1.2.1 hz w
  rwa[←zu vx,←zu v1]at this)
 rw[zhk];rw[hx]at HA;rw[hc]at HCK;rw[vx]at HVA;rw[hz]at HVB;obtain⟨r,hr⟩:=nm (nS (num x ^ num bt%num M));rw[hr]at HMM⊢;unfold gV zV at *;clear hr hM hO hc vx hx vu hz;go_enter Tryz.func104,Tryz.ntmps104;have hk:=GI9.new w M O bt;obtain⟨W0,hW0⟩:=nm ((w.alloc (.cells #[.string M,.string O] 24)).alloc (.cells #[.bool false,.string bt] 156));rw[hW0]at hk;have HK:=Hq hk;have c0:=hk.1.c0;have c1:=hk.1.c1;have b0:=hk.2.1.c0;have b1:=hk.2.1.c1;clear hk;go_wp2_with fail;try rw[hW0]
 clear hW0;refine(HVA.out _).mono ?_;rintro ev w9 ⟨rfl,rfl⟩;go_wp2_with fail;refine(HVB.out _).mono ?_;rintro ev w1 ⟨rfl,hb⟩;have hk:=HK.out.next hb;have HK:=Hq hk;clear hb c0 c1 b0 b1;have c0:=hk.1.c0;have c1:=hk.1.c1;have b0:=hk.2.1.c0;have b1:=hk.2.1.c1;clear hk;go_wp2_with fail;refine(HCK.out _).mono ?_;rintro ev w2 ⟨rfl,hb⟩;have hk:=HK.out.next hb;have HK:=Hq hk;clear hb c0 c1 b0 b1;have c0:=hk.1.c0;have c1:=hk.1.c1;have b0:=hk.2.1.c0;have b1:=hk.2.1.c1;clear hk;go_wp2_with fail;refine(HA.out _).mono ?_;rintro ev w3 ⟨rfl,hb⟩;have hk:=HK.out.next hb;have HK:=Hq hk;clear hb c0 c1 b0 b1;have c0:=hk.1.c0;have c1:=hk.1.c1;have b0:=hk.2.1.c0;have b1:=hk.2.1.c1;clear hk;go_wp2_with fail;refine(HMM.out _).mono ?_;rintro ev w4 ⟨rfl,hb⟩;have hk:=HK.out.next hb;have HK:=Hq hk;clear hb c0 c1 b0 b1;have c0:=hk.1.c0;have c1:=hk.1.c1;have b0:=hk.2.1.c0;have b1:=hk.2.1.c1;clear hk;go_wp2;go_ret2;exact⟨rfl,HK.out.2.2⟩
set_option maxRecDepth 100000
set_option maxHeartbeats 4000000
def valF(m x:Nat)(l:List ByteArray):Nat:=l.foldl (fun y u=>pz m y (num u)) x
theorem zj3{m x k:Nat}{l:List ByteArray}{u:ByteArray}(he:l[k]? =some u):valF m x (l.take (k+1))=pz m (valF m x (l.take k)) (num u):=by
 unfold valF;rw[List.take_add_one,he,Option.toList_some,List.foldl_append];rfl
theorem pr_u{M O a u:ByteArray}(va:zc a=true)(hc:chkK M O=0)(ha:hasN (num M) (num O) (num a)=true)(vu:zc u=true) :
 prR M O [a] [(false,u)]=.tuple #[.string (nS (pz (num M) (num a) (num u))),.int .i64 0]:=by
 have h:=pr_one va hc ha (x:=(num u:Int)) (by rw[Int.natAbs_natCast];exact jk vu);rw[Int.natAbs_natCast,decide_eq_false (Int.not_lt.2 (Int.natCast_nonneg _)),←zu vu]at h;exact h
theorem zzb{u:ByteArray}(vu:zc u=true)(w:World):Calls Tryz.prog 132 #[.string u] w (Ret (.agg #[.bool false,.string u]) w):=by
 have h:=zeg (num u) (jk vu) w;rw[←zu vu]at h;have e:intV (num u:Int)=.agg #[.bool false,.string u]:=(by unfold intV zV;rw[Int.natAbs_natCast,decide_eq_false (Int.not_lt.2 (Int.natCast_nonneg _)),←zu vu]);rwa[e]at h
theorem zxj{u:ByteArray}(vu:zc u=true)(w:World):Calls Tryz.prog 105 #[.string u] w (Ret (.agg #[.bool false,.string u]) w):=by
 have h:=zt8 (num u) (jk vu) w;rw[←zu vu]at h;have e:intV (num u:Int)=.agg #[.bool false,.string u]:=(by unfold intV zV;rw[Int.natAbs_natCast,decide_eq_false (Int.not_lt.2 (Int.natCast_nonneg _)),←zu vu]);rwa[e]at h
theorem zm7{M O:ByteArray}(hc:chkK M O=0){y u:ByteArray}(hy:hasN (num M) (num O) (num y)=true):hasN (num M) (num O) (pz (num M) (num y) (num u))=true:=zy9 (ju hc).2.2 hy _
theorem sz_v{x:ByteArray}(hv:zc x=true):x.size≤1000:=by have:=zy hv;omega
theorem ztb(M O x:ByteArray)(l:List ByteArray)(A:Option Addr)(n c:Nat)(w:World)(hM:M.size≤8)(hO:O.size≤8)(hc:chkK M O=0)(vx:zc x=true)(hx:hasN (num M) (num O) (num x)=true)
 (hl:l.all zc=true) (hs:SlN w A n c l):Calls Tryz.prog 84 #[gV M O,.string x,.slice A n c] w (Ret (.tuple #[.string (nS (valF (num M) (num x) l)),.int .i64 0]) w):=by
 have HSN:=Hq hs;have HNL:=Hq hs.1;have hc1:=hs.2.1;have hc2:=hs.2.2.1;have HC:=Hq hc;have HV:=Hq (List.all_eq_true.1 hl);have HVX:=Hq vx;have HHX:=Hq hx;have HEX:=Hq (fun(y u:ByteArray) (bb:Bool)=>zyl M O y bb u hM hO);obtain⟨R,hR⟩:=nm (valF (num M) (num x) l);rw[hR];have HR:=Hq hR;unfold gV at HEX⊢;unfold zV at HEX;obtain⟨W0,hW0⟩:=nm (w.alloc (.cells #[.string M,.string O] 24));have hx0:Bx2 W0 w.heap.size (.string M) (.string O) 24:=by rw[←hW0];exact Bx2.new _ _ _ _
 have hb0:Below w.heap.size w W0:=by rw[←hW0];exact(blr).alloc nlr _
 have HX0:=Hq hx0;have HB0:=Hq hb0;clear hs hR hc vx hx hl hM hO hx0 hb0;go_enter Tryz.func84,Tryz.ntmps84;go_wp2;try rw[hW0]
 clear hW0;go_loopw [1,14] (fun v i wr=>∃(k:Nat) (y:ByteArray),k≤n∧i=.int .i64 k∧v=.string y∧(zc y=true∧hasN (num M) (num O) (num y)=true∧num y=valF (num M) (num x) (l.take k))∧Below W0.heap.size W0 wr) (fun _ i _=>n - (intOf i).toNat);case atStart=>exact⟨0,x,Nat.zero_le _,rfl,rfl,⟨HVX.out,HHX.out,rfl⟩,Below.refl _ _⟩
 case round =>
  obtain⟨k,y,hk,rfl,rfl,hy,hbb⟩:=hrel;have HB:=Hq hbb;have HY:=Hq hy;by_cases hlt:k<n
  · obtain⟨u,he⟩:∃ u,l[k]? =some u:=⟨_,List.getElem?_eq_getElem (by rw[HNL.out];exact hlt)⟩;obtain⟨b,o,rfl⟩:=HSN.out.head (by omega);have HVU:=Hq (HV.out u (List.mem_of_getElem? he));have HFR:=Hq (zzb HVU.out);have hex:=HEX.out y u false (sz_v hy.1) (sz_v HVU.out);rw[pr_u hy.1 HC.out hy.2.1 HVU.out]at hex;obtain⟨z,hz⟩:=nm (nS (pz (num M) (num y) (num u)));have hhz:=zm7 (u:=u) HC.out hy.2.1;have HZ:=Hq (show zc z=true∧hasN (num M) (num O) (num z)=true∧num z=valF (num M) (num x) (l.take (k+1))from by
     rw[←hz,zaa]
     exact⟨zj.2 (Nat.lt_trans (zvz hhz) (jk (ju HC.out).1)),hhz,by rw[zj3 he,hy.2.2]⟩)
    rw[hz]at hex;have HEQ:=Hq hex;have hbr:=HB0.out.trans (hbb.mono HB0.out.size);have e0:=(HSN.out.kept hbr nlr).get? k he;clear he hy hbb hhz hz hex;go_wp2;obtain⟨wd,hwd⟩:=nm (wr.drew);have hbd:Below wr.heap.size wr wd:=by rw[←hwd];exact(blr).drew
    have hxd:=(HX0.out.next HB.out).next hbd;have c0:=hxd.c0;have c1:=hxd.c1;have HBD:=bt HB hbd;clear hbd hxd hbr e0;refine za 10 (Below (wd).heap.size (wd)) (by kernel_rfl) ?_;rw[hwd];refine rTs 0 19 9 blr (k2 c0 c1) ?_;refine rPs 1 20 8 blr ?_;refine rPs 2 21 7 blr ?_;refine rO 3 6 ?_;intro K3 hK3;go_wp2_with fail;refine(HFR.out _).mono ?_;rintro ev w7 ⟨rfl,hb⟩;have HB3:=Hq hb;clear hb;go_wp2;refine hK3 _ _ (by exact HB3.out) ?_;clear hK3;intro hS_4_3;refine rO 4 5 ?_;intro K4 hK4;go_wp2_with fail;refine(HEQ.out _).mono ?_;rintro ev w8 ⟨rfl,hb⟩;have HB4:=Hq hb;clear hb;go_wp2;refine hK4 _ _ (by exact Below.trans hS_4_3 (Below.mono HB4.out (Below.size hS_4_3))) ?_;clear hK4;intro hS_4_4;refine rPs 5 18 4 hS_4_4 ?_;refine rPs 6 24 3 hS_4_4 ?_;refine rPs 7 25 2 hS_4_4 ?_;refine rO 8 1 ?_;intro K8 hK8;go_wp2;refine hK8 _ _ (by exact hS_4_4) ?_;clear hK8;intro hS_4_8;refine rO 9 0 ?_;intro K9 hK9;go_wp2;refine hK9 _ _ (by exact hS_4_8) ?_;clear hK9;intro hS_4_9;refine wDn ?_;clear c0 c1;have HB9:=Hq (HBD.out.trans ((HB3.out.trans (HB4.out.mono HB3.out.size)).mono HBD.out.size));go_wp2;go_roundw;case rel=>exact⟨k+1,z,by omega,by go_num,rfl,HZ.out,HB9.out⟩
    case measure=>simp[intOf];omega
  · obtain rfl:k=n:=by omega
    have HRR:=Hq (show nS R=y from by rw[←HR.out,←List.take_of_length_le (l:=l) (i:=k) (by have:=HNL.out;omega),←HY.out.2.2];exact(zu HY.out.1).symm);go_wp2;go_ret2;exact⟨by rw[HRR.out];rfl,HB0.out.trans (HB.out.mono HB0.out.size)⟩
end Go.Proofs.YtppbcopnfankcaaGreat
