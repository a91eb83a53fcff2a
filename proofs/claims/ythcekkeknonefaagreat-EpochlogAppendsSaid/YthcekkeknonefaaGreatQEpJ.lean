/-
 DERIVED: THE SHELF's CONTRACTS AT THIS DUMP, IN PLAIN WORDS (tools/lay-plain.mjs out of 'TryShel2.lean', which tools/lay-shelf.mjs wrote): THE SAME DECLARATIONS UNDER THE SAME NAMES: 'import', 'namespace', 'open', 'def', 'theorem' AND NOTHING ELSE: no command of the shelf's: FOR A HAND-IN. Each laying: the table of numbers ('.._ren') and one theorem, a field a fact of the dump's own or the kernel's comparison; each contract: ONE APPLICATION.
-/
import Derived.Shelf.Spec.SlicesGrow
import Derived.Shelf.SlIter.Collect
import Derived.Shelf.SlSortCmp.Whole1
import Derived.Ground.SlsfProg
import Derived.Ground.Names8Prog
import Derived.Ground.GgzProg
import Derived.Test.YthcekkeknonefaaGreatProg
import Derived.Test.YthcekkeknonefaaGreatQEpG
import Derived.Maps.OwnSet
import Derived.Maps.OwnOps
import Derived.Maps.Views
import Derived.StringKeys
set_option linter.unusedVariables false
set_option linter.unusedSimpArgs false
namespace Go.Proofs
open Go.Shelf
def Tryz.sortN_ren:Go.Shelf.Ren:=⟨fun | 6=>58 | 15=>119 | 14=>118 | 28=>186 | 29=>187 | 20=>178 | 21=>179 | 22=>180 | 23=>181 | 24=>182 | 25=>183 | 26=>184 | 27=>185 | 46=>230 | 47=>231 | 48=>232 | 49=>233 | 50=>234 | 57=>258 | n=>n,fun | 22=>28 | 24=>22 | 25=>87 | 3=>3 | 39=>174 | 0=>0 | 53=>232 | 55=>114 | 4=>4 | 46=>225 | 45=>224 | 50=>229 | 5=>5 | 9=>9 | 66=>261 | 70=>265 | 76=>278 | 77=>279 | n=>n,fun | n=>n⟩
theorem Tryz.sortN:Go.Proofs.SlLaysF.n6 Tryz.prog Tryz.sortN_ren:={
 mixed:=by kernel_rfl
 f6:=⟨Tryz.f58.name,by decide,Tryz.func58.trans (congrArg some (by kernel_rfl))⟩
 f14:=⟨Tryz.f118.name,by decide,Tryz.func118.trans (congrArg some (by kernel_rfl))⟩
 f15:=Tryz.func119.trans (congrArg some (by kernel_rfl))
 f20:=⟨Tryz.f178.name,by decide,Tryz.func178.trans (congrArg some (by kernel_rfl))⟩
 f21:=⟨Tryz.f179.name,by decide,Tryz.func179.trans (congrArg some (by kernel_rfl))⟩
 f22:=⟨Tryz.f180.name,by decide,Tryz.func180.trans (congrArg some (by kernel_rfl))⟩
 f23:=⟨Tryz.f181.name,by decide,Tryz.func181.trans (congrArg some (by kernel_rfl))⟩
 f24:=⟨Tryz.f182.name,by decide,Tryz.func182.trans (congrArg some (by kernel_rfl))⟩
 f25:=⟨Tryz.f183.name,by decide,Tryz.func183.trans (congrArg some (by kernel_rfl))⟩
 f26:=⟨Tryz.f184.name,by decide,Tryz.func184.trans (congrArg some (by kernel_rfl))⟩
 f27:=⟨Tryz.f185.name,by decide,Tryz.func185.trans (congrArg some (by kernel_rfl))⟩
 f28:=Tryz.func186.trans (congrArg some (by kernel_rfl))
 f29:=Tryz.func187.trans (congrArg some (by kernel_rfl))
 f46:=⟨Tryz.f230.name,by decide,Tryz.func230.trans (congrArg some (by kernel_rfl))⟩
 f47:=Tryz.func231.trans (congrArg some (by kernel_rfl))
 f48:=Tryz.func232.trans (congrArg some (by kernel_rfl))
 f49:=⟨Tryz.f233.name,by decide,Tryz.func233.trans (congrArg some (by kernel_rfl))⟩
 f50:=⟨Tryz.f234.name,by decide,Tryz.func234.trans (congrArg some (by kernel_rfl))⟩
 f57:=⟨Tryz.f258.name,by decide,Tryz.func258.trans (congrArg some (by kernel_rfl))⟩
 t0:=Tryz.underlying0
 a0:=Tryz.isAgg0
 z0:=Tryz.sizeOf0
 v0:=Tryz.zeroValue0
 t3:=Tryz.underlying3
 a3:=Tryz.isAgg3
 z3:=Tryz.sizeOf3
 v3:=Tryz.zeroValue3
 t4:=Tryz.underlying4
 a4:=Tryz.isAgg4
 z4:=Tryz.sizeOf4
 v4:=Tryz.zeroValue4
 t5:=Tryz.underlying5
 a5:=Tryz.isAgg5
 z5:=Tryz.sizeOf5
 v5:=Tryz.zeroValue5
 t9:=Tryz.underlying9
 a9:=Tryz.isAgg9
 z9:=Tryz.sizeOf9
 v9:=Tryz.zeroValue9
 t22:=Tryz.underlying28
 a22:=Tryz.isAgg28
 z22:=Tryz.sizeOf28
 v22:=Tryz.zeroValue28
 a24:=Tryz.isAgg22
 z24:=Tryz.sizeOf22
 t25:=Tryz.underlying87
 a25:=Tryz.isAgg87
 z25:=Tryz.sizeOf87
 v25:=Tryz.zeroValue87
 t39:=Tryz.underlying174
 a39:=Tryz.isAgg174
 z39:=Tryz.sizeOf174
 v39:=Tryz.zeroValue174
 t45:=Tryz.underlying224
 a45:=Tryz.isAgg224
 z45:=Tryz.sizeOf224
 v45:=Tryz.zeroValue224
 t46:=Tryz.underlying225
 a46:=Tryz.isAgg225
 z46:=Tryz.sizeOf225
 v46:=Tryz.zeroValue225
 t50:=Tryz.underlying229
 a50:=Tryz.isAgg229
 z50:=Tryz.sizeOf229
 v50:=Tryz.zeroValue229
 t53:=Tryz.underlying232
 a53:=Tryz.isAgg232
 z53:=Tryz.sizeOf232
 v53:=Tryz.zeroValue232
 t55:=Tryz.underlying114
 a55:=Tryz.isAgg114
 z55:=Tryz.sizeOf114
 v55:=Tryz.zeroValue114
 t66:=Tryz.underlying261
 a66:=Tryz.isAgg261
 z66:=Tryz.sizeOf261
 v66:=Tryz.zeroValue261
 t70:=Tryz.underlying265
 a70:=Tryz.isAgg265
 z70:=Tryz.sizeOf265
 v70:=Tryz.zeroValue265
 t76:=Tryz.underlying278
 a76:=Tryz.isAgg278
 z76:=Tryz.sizeOf278
 v76:=Tryz.zeroValue278
 t77:=Tryz.underlying279
 a77:=Tryz.isAgg279
 z77:=Tryz.sizeOf279
 v77:=Tryz.zeroValue279 }
end Go.Proofs
namespace Go.Proofs.YthcekkeknonefaaGreat
set_option maxRecDepth 100000
set_option maxHeartbeats 1000000
open Go.RowKit
open Go.Maps Go.WideMaps Go.Sort Go.Shelf
theorem zeroI(w:World):(zeroValue 3).run Tryz.prog w=.ok (.int .i64 0) w:=by kernel_rfl
theorem lawN:Keyed Tryz.prog 22:=string_keyed Tryz.underlying22
theorem keyN{s:ByteArray}(h:s.size≤maxLen):keyOf Tryz.prog 22 (.string s)=some (.string s.data.toList):=keyOf_string_mk Tryz.underlying22 h
def MapZ(w:World)(b n:Nat)(K:List ByteArray)(g:ByteArray→Int):Prop:=∃ D:DataW Unit,w.ownsMap Tryz.prog 22 (plainElem (H:=Unit) Tryz.prog 3) b n D ∧
 ∀ s:ByteArray,(Maps.has D (.string s.data.toList)=true↔s∈K)∧D.atKey (.string s.data.toList) (.lit (.int .i64 0))=.lit (.int .i64 (g s))
theorem MapZ.made(w:World):MapZ (w.alloc (.map #[] 0)) w.heap.size 0 [] (fun _=>0):=⟨_,World.ownsMap_made _ _ _ _,fun _=>⟨⟨(fun h=>by cases h),(fun h=>by cases h)⟩,rfl⟩⟩
theorem MapZ.lt{w:World}{b n:Nat}{K:List ByteArray}{g:ByteArray→Int}(h:MapZ w b n K g):b<w.heap.size:=let ⟨_,h1,_⟩:=h;h1.lt
theorem MapZ.of_block{w w':World}{b n:Nat}{K:List ByteArray}{g:ByteArray→Int}(h:MapZ w b n K g)(e:w'.heap[b]? =w.heap[b]?):MapZ w' b n K g:=by
 obtain⟨D,⟨es,clock,h1,h2⟩,h3⟩:=h;exact⟨D,⟨es,clock,e.trans h1,h2⟩,h3⟩
theorem MapZ.kept{B:Nat}{w w':World}{b n:Nat}{K:List ByteArray}{g:ByteArray→Int}(h:MapZ w b n K g)(hb:Below B w w')(hB:w.heap.size≤B):MapZ w' b n K g:=
 h.of_block (hb.block b (Nat.lt_of_lt_of_le h.lt hB))
theorem MapZ.congr{w:World}{b n n':Nat}{K K':List ByteArray}{g g':ByteArray→Int}(h:MapZ w b n K g)(hn:n=n')(hK:K=K')(hg:g=g'):MapZ w b n' K' g':=by
 subst hn hK hg;exact h
theorem mapZ_put{w':World}{b n:Nat}{K:List ByteArray}{g:ByteArray→Int}{h:ByteArray}{k:Int}{D:DataW Unit}(hf:∀ s:ByteArray,(Maps.has D (.string s.data.toList)=true↔s∈K)∧D.atKey (.string s.data.toList) (.lit (.int .i64 0))=.lit (.int .i64 (g s)))(hm:IsMap D)
 (hown:w'.ownsMap Tryz.prog 22 (plainElem (H:=Unit) Tryz.prog 3) b (n+1) (D.put (.string h.data.toList) (.lit (.int .i64 k)))):MapZ w' b (n+1) (K++[h]) (fun u=>if u=h then k else g u):=by
 have hk:WideAt.IsKeyLit (.string h.data.toList):=trivial;refine⟨_,hown,fun s=>?_⟩;dsimp only;by_cases e:s=h
 · subst e;rw[has_put_same hm hk,if_pos rfl];exact⟨⟨fun _=>by simp,fun _=>rfl⟩,atKey_put_same hm hk _ _⟩
 · have hne:(Lit.string s.data.toList)≠(Lit.string h.data.toList):=fun hh=>e (by simp only[Lit.string.injEq]at hh;rw[←bstr_of h,←bstr_of s,hh]);rw[has_put_other hne,if_neg e,atKey_put_other hne];refine⟨?_,(hf s).2⟩;rw[(hf s).1];simp[e]
abbrev VN:={s:ByteArray // nvalid s=true}
instance : Inhabited VN:=⟨⟨⟨#[]⟩,by decide⟩⟩
def VN.enc(x:VN):Value:=.string x.1
def VN.cf(x y:VN):Int:=cmpI (num x.1) (num y.1)
theorem VN.lt_iff(x y:VN):ltOf VN.cf x y=decide (num x.1<num y.1):=decide_eq_decide.2 cmpI_neg
theorem VN.swo:SWO (ltOf VN.cf) where
 irrefl x:=by rw[VN.lt_iff];exact decide_eq_false (Nat.lt_irrefl _)
 trans x y z h1 h2:=by rw[VN.lt_iff]at *;simp only[decide_eq_true_eq]at *;omega
 ntrans x y z h1 h2:=by rw[VN.lt_iff]at *;simp only[decide_eq_false_iff_not]at *;omega
theorem VN.reads(blk off size:Nat)(w:World):CmpReads Tryz.prog 36 #[] VN.enc VN.cf blk off size w:=by
 intro m os dk _ x y;have h:=nat_Cmp x.1 y.1 (by have:=size_valid x.2;omega) (by have:=size_valid y.2;omega) (sortWorld VN.enc w blk off m dk os);rw[ncmp_num x.2 y.2]at h;exact h.mono fun e w' ⟨he,hw⟩=>⟨he,0,hw.symm⟩
theorem ins_none(w:World):Calls Tryz.prog 178 #[.slice none 0 0,.int .i64 0,.int .i64 0,.func (.func 36) #[] #[]] w (fun e w'=>e=.returned (.tuple #[])∧w'=w):=by
 go_enter Tryz.func178,Tryz.ntmps178;go_wp2;refine wp_loop_rounds 1 ?_;rw[rounds_succ];go_wp2;go_end0;exact⟨rfl,rfl⟩
theorem pdq_none(w:World)(l:Int):Calls Tryz.prog 118 #[.slice none 0 0,.int .i64 0,.int .i64 0,.int .i64 l,.func (.func 36) #[] #[]] w (fun e w'=>e=.returned (.tuple #[])∧w'=w):=by
 go_enter Tryz.func118,Tryz.ntmps118;go_wp2_with fail;refine wp_loop_rounds 1 ?_;rw[rounds_succ];go_wp2_with fail;refine(ins_none _).mono ?_;rintro e w1 ⟨rfl,rfl⟩;go_wp2;exact bodyPost_ret (v:=.tuple #[]) (by simp[results,Tryz.results118,go_sem]) rfl ⟨rfl,rfl⟩
theorem sort_none(w:World):Calls Tryz.prog 58 #[.slice none 0 0,.func (.func 36) #[] #[]] w (fun e w'=>e=.returned (.tuple #[])∧w'=w):=by
 go_enter Tryz.func58,Tryz.ntmps58;go_wp2_with fail;refine(Tryz.bits_Len 0 _ (by decide) (by decide)).mono ?_;rintro e w1 ⟨rfl,rfl⟩;go_wp2_with fail;refine(pdq_none _ _).mono ?_;rintro e w1 ⟨rfl,rfl⟩;go_wp2;go_end0;exact⟨rfl,rfl⟩
def SortedK(K l:List ByteArray):Prop:=(∀ s∈l,nvalid s=true)∧(∀(i j:Nat) a b,i<j→l[i]? =some a→l[j]? =some b→num a<num b)∧∀ s,s∈l↔s∈K
theorem below_sort{B:Nat}(w:World)(blk n:Nat)(d:Array VN)(os:Array Obj)(hB:B≤blk)(hblk:blk<w.heap.size):Go.RowKit.Below B w (sortWorld VN.enc w blk 0 n d os):=by
 refine⟨rfl,rfl,rfl,?_,fun k hk=>?_⟩
 · unfold sortWorld putRow mapBlock Sort.ahead;rw[Go.Sort.size_grow];simp
 · unfold sortWorld;rw[Go.Sort.heap_grow_old _ _ (by unfold putRow mapBlock Sort.ahead;simp;omega)];unfold putRow mapBlock Sort.ahead;simp only[Array.getElem?_modify];rw[if_neg (by omega)]
theorem sort_row(d:Array VN)(blk cap:Nat)(w:World)(hH:Holds VN.enc w blk 0 d)(hblk:blk<w.heap.size)(hsz:d.size<4611686018427387904)(hcap:d.size≤cap)(hc2:cap≤9223372036854775807) :
 Calls Tryz.prog 58 #[.slice (some ⟨blk,0,none⟩) d.size cap,.func (.func 36) #[] #[]] w (fun e w'=>e=.returned (.tuple #[])∧∃ d':Array VN,PermIn 0 d.size d d'∧SortedIn (ltOf VN.cf) 0 d.size d'∧SlN w' (some ⟨blk,0,none⟩) d.size cap (d'.toList.map (fun x=>x.1))∧∀ B,B≤blk→Go.RowKit.Below B w w'):=by
 have eg:∀ args w,(callFunc 36 args).run Tryz.prog w=.ok (.enter 36 args) w:=enters_of Tryz.func36 (by kernel_rfl) rfl;have h:=Any.slices_SortFunc Tryz.sortN VN.enc (fun _=>rfl) VN.cf VN.swo 36 #[] blk 0 cap d w eg (VN.reads blk 0 d.size w).lays hH hblk hsz;refine(show Calls _ 58 _ _ _ from h).mono ?_;rintro e w' ⟨rfl,d',n,os,hp,hs,rfl⟩;have hsw:SW VN.enc w blk 0 d' (sortWorld VN.enc w blk 0 n d' os):=⟨n,os,rfl⟩;have hh:=hsw.holds hblk hH hp.1;refine⟨rfl,d',hp,hs,⟨by simp[hp.1],hcap,hc2,blk,0,fun _=>rfl,fun k s hk=>?_⟩,fun B hB=>?_⟩
 · rw[List.getElem?_map,Option.map_eq_some_iff]at hk;obtain⟨x,hx,rfl⟩:=hk;rw[Array.getElem?_toList]at hx;obtain⟨hlt,hx⟩:=Array.getElem?_eq_some_iff.1 hx;have:=(hh k hlt).1;rw[getElem!_pos d' k hlt,hx]at this;exact this
 · exact below_sort w blk n d' os hB hblk
theorem mem_strKeys{w:World}{k:TypeId}{R:Value→Option (DataW Unit×List MemPlace)}{b n:Nat}{D:DataW Unit}(hown:w.ownsMap Tryz.prog k R b n D)(hk:Tryz.prog.underlying k=some .string)(x:List UInt8):x∈strKeys D↔Maps.has D (.string x)=true:=by
 obtain⟨es,rfl,hko⟩:=hown.keysOf;have hs:∀ p∈es,∃ x,p.1=.string x:=fun p hp=>by obtain⟨v,hv⟩:=hko p hp;obtain⟨x,_,hx,_⟩:=Go.Maps.keyOf_str hk hv;exact⟨x,hx⟩
 rw[has_eq,List.any_eq_true];show x∈es.map (fun p=>strOf p.1)↔_;rw[List.mem_map];constructor
 · rintro⟨p,hp',rfl⟩;obtain⟨a,ha⟩:=hs p hp';exact⟨p,hp',by rw[ha];simp[Lit.sameKey,strOf]⟩
 · rintro⟨p,hp',h⟩;obtain⟨a,ha⟩:=hs p hp';rw[ha]at h;exact⟨p,hp',by rw[ha];simpa[Lit.sameKey,strOf]using h⟩
theorem nodup_strKeys{w:World}{k:TypeId}{R:Value→Option (DataW Unit×List MemPlace)}{b n:Nat}{D:DataW Unit}(hown:w.ownsMap Tryz.prog k R b n D)(K:Keyed Tryz.prog k)(hk:Tryz.prog.underlying k=some .string):(strKeys D).Nodup:=by
 obtain⟨es,hD,hpw,_⟩:=hown.entries K;obtain⟨es',hD',hko⟩:=hown.keysOf;obtain rfl:es=es':=by rw[hD]at hD';simpa using hD'
 subst hD;have hs:∀ p∈es,∃ x,p.1=.string x:=fun p hp=>by obtain⟨v,hv⟩:=hko p hp;obtain⟨x,_,hx,_⟩:=Go.Maps.keyOf_str hk hv;exact⟨x,hx⟩
 show (es.map (fun p=>strOf p.1)).Nodup;refine List.pairwise_map.2 (hpw.imp_of_mem fun {p q} hp' hq' hne e=>hne ?_);obtain⟨a,ha⟩:=hs p hp';obtain⟨b,hb⟩:=hs q hq';rw[ha,hb]at e⊢;exact congrArg _ e
theorem sorted_asc{d d':Array VN}(hp:PermIn 0 d.size d d')(hs:SortedIn (ltOf VN.cf) 0 d.size d')(hnd:d.toList.Nodup){K:List ByteArray}(hK:∀ s,s∈d.toList.map (fun x=>x.1)↔s∈K):SortedK K (d'.toList.map (fun x=>x.1)):=by
 have hperm:d'.toList.Perm d.toList:=(by have:=hp.2.2;rw[show d'.extract 0 d.size=d' from by rw[←hp.1];simp,show d.extract 0 d.size=d from by simp]at this;exact this);have hnd':d'.toList.Nodup:=hperm.nodup_iff.2 hnd;refine⟨fun s hs'=>?_,fun i j a b hij ha hb=>?_,fun s=>?_⟩
 · obtain⟨x,_,rfl⟩:=List.mem_map.1 hs';exact x.2
 · rw[List.getElem?_map,Option.map_eq_some_iff]at ha hb;obtain⟨x,hx,rfl⟩:=ha;obtain⟨y,hy,rfl⟩:=hb;rw[Array.getElem?_toList]at hx hy;obtain⟨hi,hx'⟩:=Array.getElem?_eq_some_iff.1 hx;obtain⟨hj,hy'⟩:=Array.getElem?_eq_some_iff.1 hy;have h:=hs i j (Nat.zero_le _) hij (by rw[←hp.1];exact hj);rw[VN.lt_iff,decide_eq_false_iff_not,getElem!_pos d' i hi,getElem!_pos d' j hj,hx',hy']at h;rcases Nat.lt_or_ge (num x.1) (num y.1)with h' | h'
   · exact h'
   · exfalso;have he:x=y:=Subtype.ext (num_inj x.2 y.2 (by omega));have h1:d'.toList[i]? =some x:=by rw[Array.getElem?_toList];exact hx
     have h2:d'.toList[j]? =some x:=by rw[Array.getElem?_toList,he];exact hy
     have:=(List.getElem?_inj (i:=i) (j:=j) (by simpa using hi) hnd').1 (h1.trans h2.symm);omega
 · rw[←hK s];exact(hperm.map _).mem_iff
theorem ep_sorted(b n Bm:Nat)(K:List ByteArray)(g:ByteArray→Int)(w:World)(hm:MapZ w b n K g)(hK:∀ s∈K,nvalid s=true)(hn:n≤10000000)(hB:w.cell? ⟨Bm,0,none⟩=some (.map (some b)))(hBl:Bm<w.heap.size) :
 Calls Tryz.prog 34 #[.func (.func 59) #[] #[.pointer (some ⟨Bm,0,none⟩)],.func (.func 36) #[] #[]] w (fun e w'=>∃ A c l,e=.returned (.slice A l.length c)∧SlN w' A l.length c l∧SortedK K l∧l.length≤n∧(0<l.length→∀ ad,A=some ad→w.heap.size≤ad.block)∧Go.RowKit.Below w.heap.size w w'):=by
 obtain⟨D,hown,hD⟩:=hm;have hsz:=hown.size_le;have hseq:SeqGives Fence.wide 2 Tryz.prog 59 #[.pointer (some ⟨Bm,0,none⟩)] encStr (fun ss=>ss.Perm (strKeys D)) (Maps.size D) w:=
  AnyZ.keys_gives (ρ:=Tryz.keysN_ren) { Tryz.keysN with } Fence.wide _ trivial rfl (by omega) Bm b n D _ hBl hB hown
 have hcol:=AnyZ.collect_in Tryz.collectN Fence.wide 4 trivial trivial rfl (by omega) 59 #[.pointer (some ⟨Bm,0,none⟩)] trivial (enters_of Tryz.func59 (by kernel_rfl) rfl) _ _ (by unfold maxLen;omega) (by omega) _ hseq;have HC:=Hq (callsIn_wide.1 hcol);clear hcol hseq;have HMEM:=Hq (fun x=>mem_strKeys hown Tryz.underlying22 x);have HND:=Hq (nodup_strKeys hown lawN Tryz.underlying22);have HDD:=Hq hD;have HK:=Hq hK;clear hown hD hK hB;go_enter Tryz.func34,Tryz.ntmps34;go_wp2_with fail;refine HC.out.mono ?_;rintro e w1 ⟨v,ss,rfl,hp,hown1,hnil,hb⟩;have HP:=Hq hp;have HO:=Hq hown1;have HB:=Hq hb;have HLE:=Hq (show ss.length≤n from by rw[hp.length_eq];have : (strKeys D).length=Maps.size D:=(by cases D<;>simp[strKeys,Maps.size]);omega);have HKM:=Hq (show ∀ s:ByteArray,s.data.toList∈ss↔s∈K from fun s=>by rw[hp.mem_iff,HMEM.out,(HDD.out s).1])
 cases hss:ss with
 | nil =>
  have hv:=hnil.2 hss;have HE:=Hq hss;subst hv;clear hp hown1 hb hnil HC hss;go_wp2_with fail;refine(sort_none _).mono ?_;rintro e w2 ⟨rfl,rfl⟩;go_wp2;go_ret;exact⟨none,0,[],rfl,SlN.nil _ _ (by omega) _,⟨fun _ h=>by(cases h),fun _ _ _ _ _ h=>by(simp at h),fun s=>by rw[←HKM.out s,HE.out];simp⟩,Nat.zero_le _,(fun h0=>by simp at h0),HB.out⟩
 | cons x0 xs0 =>
  have hpos:0<ss.length:=by rw[hss];simp
  clear hss;have hval:∀ x∈ss,nvalid (bstr x)=true:=fun x hx=>HK.out _ ((HKM.out _).1 (by rw[bstr_data];exact hx));obtain⟨d,hd⟩:∃ d:Array VN,d=(ss.pmap (fun x h=>(⟨bstr x,h⟩:VN)) hval).toArray:=⟨_,rfl⟩;have hds:d.size=ss.length:=by rw[hd];simp
  have hdl:d.toList.map (fun x=>x.1)=ss.map bstr:=by rw[hd];simp[List.map_pmap]
  have hget:∀(j:Nat) (hj:j<d.size),VN.enc d[j]! =encStr (ss[j]'(by omega)):=fun j hj=>by
   rw[getElem!_pos d j hj];have h:=congrArg (fun l=>l[j]?) hdl;rw[List.getElem?_map,List.getElem?_map,Array.getElem?_toList,Array.getElem?_eq_getElem hj,List.getElem?_eq_getElem (by omega)]at h;simp only[Option.map_some,Option.some.injEq]at h;show Value.string _=_;rw[h];rfl
  obtain⟨blk,cap,rfl,hbg,hblt⟩:=hown1.form hpos;have hfrm:=hown1.2;have hH:Holds VN.enc w1 blk 0 d∧ss.length≤cap∧cap≤9223372036854775807:=by
   rcases hfrm with⟨h,_⟩ | ⟨g',cap',cur,hv,hgb,hh,hc,hmx,hs',ht⟩
   · cases h
   · cases hv;refine⟨fun j hj=>⟨?_,Lib.frozen_of_heap hh _⟩,hc,by unfold maxLen at hmx;exact hmx⟩;rw[Lib.cell_of_heap hh,hget j hj,Nat.zero_add];have h2:cur.toList[j]? =some (encStr (ss[j]'(by omega))):=by
      have h3:(cur.toList.take (ss.length * 1))[j]? =some (encStr (ss[j]'(by omega))):=by rw[ht];simp[List.getElem?_eq_getElem (show j<ss.length by omega)]
      rw[List.getElem?_take_of_lt (by omega)]at h3;exact h3
     rw[Array.getElem?_toList]at h2;exact h2
  obtain⟨hH,hcap,hcap2⟩:=hH;have hnd:d.toList.Nodup:=(by have h1:(ss.map bstr).Nodup:=(by refine List.pairwise_map.2 ((hp.nodup_iff.2 HND.out).imp fun {x y} hne e=>hne ?_);rw[←bstr_data x,←bstr_data y,e]);rw[←hdl]at h1;exact(List.pairwise_map.1 h1).imp fun {x y} hne e=>hne (by rw[e]));have hKd:∀ s,s∈d.toList.map (fun x=>x.1)↔s∈K:=fun s=>by
   rw[hdl,←HKM.out s,List.mem_map];constructor
   · rintro⟨x,hx,rfl⟩;rw[bstr_data];exact hx
   · intro h;exact⟨_,h,bstr_of s⟩
  have HS:=Hq (sort_row d blk cap w1 hH hblt (by have:=HLE.out;omega) (by omega) hcap2);rw[hds]at HS;have HBG:=Hq hbg;have HDS:=Hq hds;have HNDD:=Hq hnd;have HKD:=Hq hKd;clear hp hown1 hb hnil HC hval hd hdl hget hfrm hH hcap hcap2 hnd hKd hds;go_wp2_with fail;refine HS.out.mono ?_;rintro e w2 ⟨rfl,d',hp',hs',hsl,hbl⟩;rw[←HDS.out]at hp' hs';have hso:=sorted_asc hp' hs' HNDD.out HKD.out;have hlen:(d'.toList.map (fun x=>x.1)).length=ss.length:=by simp[hp'.1,HDS.out]
  have HB2:=Hq (HB.out.trans (hbl _ HBG.out));obtain⟨l,hl⟩:∃ l,d'.toList.map (fun x=>x.1)=l:=⟨_,rfl⟩;rw[hl]at hsl hso hlen;have HSL:=Hq hsl;have HSO:=Hq hso;have HLN:=Hq hlen;clear hsl hso hlen hbl hp' hs' hl;go_wp2;go_ret;exact⟨some ⟨blk,0,none⟩,cap,l,by rw[HLN.out];rfl,by rw[HLN.out];exact HSL.out,HSO.out,by rw[HLN.out];exact HLE.out,(fun _ ad he=>by cases he;exact HBG.out),HB2.out⟩
end Go.Proofs.YthcekkeknonefaaGreat
namespace Go.Proofs.YthcekkeknonefaaGreat
theorem toList_inj{a b:ByteArray}(h:a.toList=b.toList):a=b:=by
 rw[ByteArray.toList_eq,ByteArray.toList_eq]at h;rw[←bstr_of a,←bstr_of b,h]
theorem memB_iff{l:List ByteArray}{x:ByteArray}:memB l x=true↔x∈l:=by
 unfold memB;rw[List.any_eq_true];constructor
 · rintro⟨y,hy,h⟩;rw[toList_inj (beq_iff_eq.1 h)];exact hy
 · intro h;exact⟨x,h,by simp⟩
theorem memB_no{l:List ByteArray}{x:ByteArray}:memB l x=false↔x∉l:=by
 rw[←memB_iff];simp
def mrg(na nb:ByteArray→Bool):List ByteArray→List ByteArray→List ByteArray
 | [],[]=>[]
 | [],y::ys=>if nb y then mrg na nb [] ys else y::mrg na nb [] ys
 | x::xs,[]=>if na x then mrg na nb xs []else x::mrg na nb xs []
 | x::xs,y::ys=>if num x<num y then(if na x then mrg na nb xs (y::ys)else x::mrg na nb xs (y::ys))else(if nb y then mrg na nb (x::xs) ys else y::mrg na nb (x::xs) ys)
termination_by a b=>a.length+b.length
def Asc(l:List ByteArray):Prop:=l.Pairwise (fun a b=>num a<num b)
theorem asc_of{l:List ByteArray}(h:ascB l=true):Asc l:=by
 have h1:=ascB_iff.1 h;have h2:∀(n i:Nat) a b,l[i]? =some a→l[i+n+1]? =some b→num a<num b:=by
  intro n
  induction n with
  | zero=>intro i a b ha hb;exact h1 i a b ha hb
  | succ n ih =>
   intro i a b ha hb;have hlt:=(List.getElem?_eq_some_iff.1 hb).1;obtain⟨c,hc⟩:∃ c,l[i+n+1]? =some c:=⟨_,List.getElem?_eq_getElem (by omega)⟩;have:=ih i a c ha hc;have:=h1 (i+n+1) c b hc hb;omega
 refine List.pairwise_iff_getElem.2 (fun i j hi hj hij=>?_);refine h2 (j - i - 1) i _ _ (List.getElem?_eq_getElem hi) ?_;rw[show i+(j - i - 1)+1=j by omega];exact List.getElem?_eq_getElem hj
theorem asc_sorted{K l:List ByteArray}(h:SortedK K l):Asc l:=by
 refine List.pairwise_iff_getElem.2 (fun i j hi hj hij=>?_);exact h.2.1 i j _ _ hij (List.getElem?_eq_getElem hi) (List.getElem?_eq_getElem hj)
theorem Asc.filter{l:List ByteArray}(h:Asc l)(p:ByteArray→Bool):Asc (l.filter p):=List.Pairwise.filter p h
theorem Asc.nodup{l:List ByteArray}(h:Asc l):l.Nodup:=List.Pairwise.imp (fun {a b} hlt e=>by subst e;exact Nat.lt_irrefl _ hlt) h
theorem Asc.unique{l l':List ByteArray}(h:Asc l)(h':Asc l')(hm:∀ x,x∈l↔x∈l'):l=l':=by
 have hp:l.Perm l':=(List.perm_ext_iff_of_nodup h.nodup h'.nodup).2 hm;exact List.Perm.eq_of_pairwise (le:=fun a b=>num a<num b) (fun a b _ _ h1 h2=>by omega) h h' hp
theorem mem_mrg(na nb:ByteArray→Bool)(a b:List ByteArray)(x:ByteArray):x∈mrg na nb a b↔(x∈a∧na x=false)∨(x∈b∧nb x=false):=by
 fun_induction mrg na nb a b with
 | case1=>simp
 | case2 y ys h ih => rw [ih]; simp only [List.mem_cons, List.not_mem_nil, false_and, false_or]; constructor
                      · rintro⟨h1,h2⟩;exact⟨.inr h1,h2⟩
                      · rintro⟨rfl | h1,h2⟩
                        · rw[h]at h2;cases h2
                        · exact⟨h1,h2⟩
 | case3 y ys h ih => rw [List.mem_cons, ih]; simp only [List.mem_cons, List.not_mem_nil, false_and, false_or]; constructor
                      · rintro(rfl | ⟨h1,h2⟩)
                        · exact⟨.inl rfl,by simpa using h⟩
                        · exact⟨.inr h1,h2⟩
                      · rintro⟨rfl | h1,h2⟩
                        · exact .inl rfl
                        · exact .inr ⟨h1,h2⟩
 | case4 y ys h ih => rw [ih]; simp only [List.mem_cons, List.not_mem_nil, false_and, or_false]; constructor
                      · rintro⟨h1,h2⟩;exact⟨.inr h1,h2⟩
                      · rintro⟨rfl | h1,h2⟩
                        · rw[h]at h2;cases h2
                        · exact⟨h1,h2⟩
 | case5 y ys h ih => rw [List.mem_cons, ih]; simp only [List.mem_cons, List.not_mem_nil, false_and, or_false]; constructor
                      · rintro(rfl | ⟨h1,h2⟩)
                        · exact⟨.inl rfl,by simpa using h⟩
                        · exact⟨.inr h1,h2⟩
                      · rintro⟨rfl | h1,h2⟩
                        · exact .inl rfl
                        · exact .inr ⟨h1,h2⟩
 | case6 z zs y ys hlt h ih => rw [ih]; simp only [List.mem_cons]; constructor
                               · rintro(⟨h1,h2⟩ | h1)
                                 · exact .inl ⟨.inr h1,h2⟩
                                 · exact .inr h1
                               · rintro(⟨rfl | h1,h2⟩ | h1)
                                 · rw[h]at h2;cases h2
                                 · exact .inl ⟨h1,h2⟩
                                 · exact .inr h1
 | case7 z zs y ys hlt h ih => rw [List.mem_cons, ih]; simp only [List.mem_cons]; constructor
                               · rintro(rfl | ⟨h1,h2⟩ | h1)
                                 · exact .inl ⟨.inl rfl,by simpa using h⟩
                                 · exact .inl ⟨.inr h1,h2⟩
                                 · exact .inr h1
                               · rintro(⟨rfl | h1,h2⟩ | h1)
                                 · exact .inl rfl
                                 · exact .inr (.inl ⟨h1,h2⟩)
                                 · exact .inr (.inr h1)
 | case8 z zs y ys hlt h ih => rw [ih]; simp only [List.mem_cons]; constructor
                               · rintro(h1 | ⟨h1,h2⟩)
                                 · exact .inl h1
                                 · exact .inr ⟨.inr h1,h2⟩
                               · rintro(h1 | ⟨rfl | h1,h2⟩)
                                 · exact .inl h1
                                 · rw[h]at h2;cases h2
                                 · exact .inr ⟨h1,h2⟩
 | case9 z zs y ys hlt h ih => rw [List.mem_cons, ih]; simp only [List.mem_cons]; constructor
                               · rintro(rfl | h1 | ⟨h1,h2⟩)
                                 · exact .inr ⟨.inl rfl,by simpa using h⟩
                                 · exact .inl h1
                                 · exact .inr ⟨.inr h1,h2⟩
                               · rintro(h1 | ⟨rfl | h1,h2⟩)
                                 · exact .inr (.inl h1)
                                 · exact .inl rfl
                                 · exact .inr (.inr ⟨h1,h2⟩)
theorem asc_mrg(na nb:ByteArray→Bool)(a b:List ByteArray)(ha:Asc a)(hb:Asc b)(hne:∀ x∈a,∀ y∈b,num x≠num y):Asc (mrg na nb a b):=by
 fun_induction mrg na nb a b with
 | case1=>exact List.Pairwise.nil
 | case2 y ys h ih=>exact ih ha (List.pairwise_cons.1 hb).2 (fun x hx=>by cases hx)
 | case3 y ys h ih =>
  refine List.pairwise_cons.2 ⟨fun z hz=>?_,ih ha (List.pairwise_cons.1 hb).2 (fun x hx=>by cases hx)⟩;rw[mem_mrg]at hz;rcases hz with⟨hz,_⟩ | ⟨hz,_⟩
  · cases hz
  · exact(List.pairwise_cons.1 hb).1 z hz
 | case4 y ys h ih=>exact ih (List.pairwise_cons.1 ha).2 hb (fun x hx y hy=>by cases hy)
 | case5 y ys h ih =>
  refine List.pairwise_cons.2 ⟨fun z hz=>?_,ih (List.pairwise_cons.1 ha).2 hb (fun x hx y hy=>by cases hy)⟩;rw[mem_mrg]at hz;rcases hz with⟨hz,_⟩ | ⟨hz,_⟩
  · exact(List.pairwise_cons.1 ha).1 z hz
  · cases hz
 | case6 x xs y ys hlt h ih=>exact ih (List.pairwise_cons.1 ha).2 hb (fun u hu=>hne u (List.mem_cons_of_mem _ hu))
 | case7 x xs y ys hlt h ih =>
  refine List.pairwise_cons.2 ⟨fun z hz=>?_,ih (List.pairwise_cons.1 ha).2 hb (fun u hu=>hne u (List.mem_cons_of_mem _ hu))⟩;rw[mem_mrg]at hz;rcases hz with⟨hz,_⟩ | ⟨hz,_⟩
  · exact(List.pairwise_cons.1 ha).1 z hz
  · rcases List.mem_cons.1 hz with rfl | hz
    · exact hlt
    · have:=(List.pairwise_cons.1 hb).1 z hz;omega
 | case8 x xs y ys hlt h ih=>exact ih ha (List.pairwise_cons.1 hb).2 (fun u hu v hv=>hne u hu v (List.mem_cons_of_mem _ hv))
 | case9 x xs y ys hlt h ih =>
  refine List.pairwise_cons.2 ⟨fun z hz=>?_,ih ha (List.pairwise_cons.1 hb).2 (fun u hu v hv=>hne u hu v (List.mem_cons_of_mem _ hv))⟩;have hxy:=hne x List.mem_cons_self y List.mem_cons_self;rw[mem_mrg]at hz;rcases hz with⟨hz,_⟩ | ⟨hz,_⟩
  · rcases List.mem_cons.1 hz with rfl | hz
    · omega
    · have:=(List.pairwise_cons.1 ha).1 z hz;omega
  · exact(List.pairwise_cons.1 hb).1 z hz
def ind(l:List ByteArray)(x:ByteArray):Int:=if memB l x=true then 1 else 0
def chg(a b:Dl)(x:ByteArray):Int:=ind a.ad x - ind a.rm x+ind b.ad x - ind b.rm x
def Dl.zero:Dl:=⟨0,0,[],[],⟨#[]⟩,⟨#[]⟩,⟨#[]⟩,⟨#[]⟩⟩
def clash(a b:Dl):Bool:=a.ad.any (memB b.ad)||a.rm.any (memB b.rm)
def jn(a b:Dl):Dl×Int:=
 if a.msg.2≠0 then(Dl.zero,a.msg.2)else if b.msg.2≠0 then(Dl.zero,b.msg.2)else if a.to≠b.fr then(Dl.zero,21)else if a.af≠b.be then(Dl.zero,1)
 else if clash a b=true then(Dl.zero,8)
 else(⟨a.fr,b.to,mrg (memB b.rm) (memB a.rm) a.ad b.ad,mrg (memB b.ad) (memB a.ad) a.rm b.rm,a.be,b.af,⟨#[]⟩,⟨#[]⟩⟩,0)
theorem Dl.msg_ok{d:Dl}(h:d.msg.2=0):d.form=0:=by
 unfold Dl.msg at h;by_cases h0:d.form=0
 · exact h0
 · rw[if_neg h0]at h;exact absurd h h0
structure Dl.Good (d:Dl):Prop where
 vad:∀ y∈d.ad,nvalid y=true
 vrm:∀ y∈d.rm,nvalid y=true
 aad:Asc d.ad
 arm:Asc d.rm
 dis:∀ x∈d.ad,x∉d.rm
theorem Dl.good{d:Dl}(h:d.form=0):d.Good:=by
 obtain⟨hv,_,ht,_⟩:=d.form_ok h;unfold Dl.twice at ht;simp only[Bool.or_eq_false_iff,Bool.not_eq_false']at ht;refine⟨d.okN_ad hv,d.okN_rm hv,asc_of ht.1.1,asc_of ht.1.2,fun x hx hr=>?_⟩;have:=List.any_eq_false.1 ht.2 x hx;rw[memB_iff]at this;exact this hr
theorem ind_in{l:List ByteArray}{x:ByteArray}(h:x∈l):ind l x=1:=if_pos (memB_iff.2 h)
theorem ind_out{l:List ByteArray}{x:ByteArray}(h:x∉l):ind l x=0:=if_neg (fun h'=>h (memB_iff.1 h'))
theorem ind_cases(l:List ByteArray)(x:ByteArray):(x∈l∧ind l x=1)∨(x∉l∧ind l x=0):=by
 by_cases h:x∈l
 · exact .inl ⟨h,ind_in h⟩
 · exact .inr ⟨h,ind_out h⟩
theorem clash_iff{a b:Dl}(ha:a.Good)(hb:b.Good):clash a b=true↔∃ x,x∈a.ad++a.rm++b.ad++b.rm∧(chg a b x=2∨chg a b x = -2):=by
 unfold clash;rw[Bool.or_eq_true,List.any_eq_true,List.any_eq_true];constructor
 · rintro(⟨x,hx,h⟩ | ⟨x,hx,h⟩)<;>rw[memB_iff]at h
   · refine⟨x,by simp[hx],.inl ?_⟩;unfold chg;rw[ind_in hx,ind_out (ha.dis x hx),ind_in h,ind_out (hb.dis x h)];rfl
   · refine⟨x,by simp[hx],.inr ?_⟩;unfold chg;rw[ind_in hx,ind_out (fun h'=>ha.dis x h' hx),ind_in h,ind_out (fun h'=>hb.dis x h' h)];rfl
 · rintro⟨x,_,h⟩;unfold chg at h;rcases ind_cases a.ad x with⟨h1,e1⟩ | ⟨h1,e1⟩<;>rcases ind_cases a.rm x with⟨h2,e2⟩ | ⟨h2,e2⟩<;>rcases ind_cases b.ad x with⟨h3,e3⟩ | ⟨h3,e3⟩<;>rcases ind_cases b.rm x with⟨h4,e4⟩ | ⟨h4,e4⟩<;>rw[e1,e2,e3,e4]at h<;>
    first
    | (exfalso;omega)
    | exact .inl ⟨x,h1,memB_iff.2 h3⟩
    | exact .inr ⟨x,h2,memB_iff.2 h4⟩
theorem jn_lists{a b:Dl}(ha:a.Good)(hb:b.Good)(hc:clash a b=false){K l:List ByteArray}(hK:∀ s,s∈K↔s∈a.ad++a.rm++b.ad++b.rm)(hl:SortedK K l) :
 l.filter (fun x=>decide (chg a b x=1))=mrg (memB b.rm) (memB a.rm) a.ad b.ad∧l.filter (fun x=>decide (chg a b x = -1))=mrg (memB b.ad) (memB a.ad) a.rm b.rm:=by
 unfold clash at hc;rw[Bool.or_eq_false_iff]at hc;have c1:∀ x∈a.ad,x∉b.ad:=fun x hx h=>List.any_eq_false.1 hc.1 x hx (memB_iff.2 h);have c2:∀ x∈a.rm,x∉b.rm:=fun x hx h=>List.any_eq_false.1 hc.2 x hx (memB_iff.2 h);have hmem:∀ x,x∈l↔x∈a.ad++a.rm++b.ad++b.rm:=fun x=>(hl.2.2 x).trans (hK x);constructor
 · refine Asc.unique ((asc_sorted hl).filter _) (asc_mrg _ _ _ _ ha.aad hb.aad (fun x hx y hy e=>?_)) (fun x=>?_)
   · have:=num_inj (ha.vad x hx) (hb.vad y hy) e;subst this;exact c1 x hx hy
   · rw[List.mem_filter,hmem,mem_mrg,memB_no,memB_no,decide_eq_true_eq];simp only[List.mem_append];unfold chg;have d1:=ha.dis x;have d2:=hb.dis x;have d3:=c1 x;have d4:=c2 x;rcases ind_cases a.ad x with⟨h1,e1⟩ | ⟨h1,e1⟩<;>rcases ind_cases a.rm x with⟨h2,e2⟩ | ⟨h2,e2⟩<;>rcases ind_cases b.ad x with⟨h3,e3⟩ | ⟨h3,e3⟩<;>rcases ind_cases b.rm x with⟨h4,e4⟩ | ⟨h4,e4⟩<;>rw[e1,e2,e3,e4]<;>simp_all
 · refine Asc.unique ((asc_sorted hl).filter _) (asc_mrg _ _ _ _ ha.arm hb.arm (fun x hx y hy e=>?_)) (fun x=>?_)
   · have:=num_inj (ha.vrm x hx) (hb.vrm y hy) e;subst this;exact c2 x hx hy
   · rw[List.mem_filter,hmem,mem_mrg,memB_no,memB_no,decide_eq_true_eq];simp only[List.mem_append];unfold chg;have d1:=ha.dis x;have d2:=hb.dis x;have d3:=c1 x;have d4:=c2 x;rcases ind_cases a.ad x with⟨h1,e1⟩ | ⟨h1,e1⟩<;>rcases ind_cases a.rm x with⟨h2,e2⟩ | ⟨h2,e2⟩<;>rcases ind_cases b.ad x with⟨h3,e3⟩ | ⟨h3,e3⟩<;>rcases ind_cases b.rm x with⟨h4,e4⟩ | ⟨h4,e4⟩<;>rw[e1,e2,e3,e4]<;>simp_all
end Go.Proofs.YthcekkeknonefaaGreat
