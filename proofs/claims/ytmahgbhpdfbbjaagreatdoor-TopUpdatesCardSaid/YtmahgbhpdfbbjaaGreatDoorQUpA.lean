import Derived.Test.YtmahgbhpdfbbjaaGreatDoorQEpX
set_option linter.unusedVariables false
set_option linter.unusedSimpArgs false
namespace Go.Proofs.YtmahgbhpdfbbjaaGreatDoor
open Go.RowKit
def Sm16(d:Dl):Prop:=∀ s∈d.str,s.size≤16
theorem zero_16:Sm16 Dl.zero:=fun s hs=>by
 simp[Dl.str,Dl.zero]at hs;subst hs;decide
theorem jn_16{a b:Dl}(ha:Sm16 a)(hb:Sm16 b):Sm16 (jn a b).1:=by
 by_cases h:(jn a b).2=0
 · rw[(jn_ok h).1];intro s hs;simp only[Dl.str,List.mem_append,mem_mrg,List.mem_cons,List.mem_nil_iff,or_false]at hs;rcases hs with((⟨h,_⟩ | ⟨h,_⟩) | (⟨h,_⟩ | ⟨h,_⟩)) | rfl | rfl | rfl | rfl
   · exact ha s (by unfold Dl.str;simp[h])
   · exact hb s (by unfold Dl.str;simp[h])
   · exact ha s (by unfold Dl.str;simp[h])
   · exact hb s (by unfold Dl.str;simp[h])
   · exact ha _ (by unfold Dl.str;simp)
   · exact hb _ (by unfold Dl.str;simp)
   · decide
   · decide
 · rw[jn_err h];exact zero_16
theorem few_16{d:Dl}(h:FewD d):Sm16 d:=fun s hs=>by
 unfold Dl.str at hs;rw[List.mem_append,List.mem_append]at hs;rcases hs with(h' | h') | h'
 · exact h.ad.2 s h'
 · exact h.rm.2 s h'
 · exact h.xs.2 s h'
theorem strip_16{d:Dl}(h:Sm16 d):Sm16 d.strip:=by
 intro s hs;simp only[Dl.str,Dl.strip,List.mem_append,List.mem_cons,List.mem_nil_iff,or_false]at hs;rcases hs with(h' | h') | rfl | rfl | rfl | rfl
 · exact h s (by unfold Dl.str;simp[h'])
 · exact h s (by unfold Dl.str;simp[h'])
 · exact h _ (by unfold Dl.str;simp)
 · exact h _ (by unfold Dl.str;simp)
 · decide
 · decide
theorem foldJ_16:∀(l:List Dl) (d:Dl),Sm16 d→(∀ x∈l,FewD x)→Sm16 (foldJ d l).1∧(foldJ d l).1.ad.length≤d.ad.length+20 * l.length∧(foldJ d l).1.rm.length≤d.rm.length+20 * l.length
 | [],d,hd,_=>⟨hd,by simp[foldJ],by simp[foldJ]⟩
 | x::l,d,hd,hl=>by
  unfold foldJ;by_cases h:(jn d x).2=0
  · rw[if_pos h];have hx:=hl x List.mem_cons_self;obtain⟨h1,h2,h3⟩:=foldJ_16 l (jn d x).1 (jn_16 hd (few_16 hx)) (fun y hy=>hl y (List.mem_cons_of_mem _ hy));have hj:=jn_len (a:=d) (b:=x);have a1:=hx.ad.1;have a2:=hx.rm.1;refine⟨h1,?_,?_⟩<;>simp only[List.length_cons]<;>omega
  · rw[if_neg h];exact⟨zero_16,by simp[Dl.zero],by simp[Dl.zero]⟩
theorem bt_16{l:List Dl}{f t:Int}(hn:l.length≤12)(hf:∀ d∈l,FewD d):Sm16 (bt l f t).1∧(bt l f t).1.ad.length≤300∧(bt l f t).1.rm.length≤300:=by
 unfold bt;split
 · exact⟨zero_16,by simp[Dl.zero],by simp[Dl.zero]⟩
 · unfold btw
   cases h:l[f.toNat]? with
   | none=>exact⟨zero_16,by simp[Dl.zero],by simp[Dl.zero]⟩
   | some d =>
    have hd:=hf d (List.mem_of_getElem? h);dsimp only;split
    · exact⟨zero_16,by simp[Dl.zero],by simp[Dl.zero]⟩
    · obtain⟨h1,h2,h3⟩:=foldJ_16 ((l.drop (f.toNat+1)).take (t.toNat - (f.toNat+1))) d.strip (strip_16 (few_16 hd)) (fun x hx=>hf x (List.mem_of_mem_drop (List.mem_of_mem_take hx)));have a1:=hd.ad.1;have a2:=hd.rm.1;have hl:((l.drop (f.toNat+1)).take (t.toNat - (f.toNat+1))).length≤12:=by rw[List.length_take,List.length_drop];omega
      have e1:d.strip.ad=d.ad:=rfl;have e2:d.strip.rm=d.rm:=rfl;rw[e1]at h2;rw[e2]at h3;exact⟨h1,by omega,by omega⟩
structure Hd where
 is:ByteArray
 sc:ByteArray
 ve:Int
 at':List ByteArray
 sa:ByteArray
 se:ByteArray
 sv:ByteArray
 ep:Int
 wi:ByteArray
def Hd.arr(h:Hd)(a:Value):Array Value:=#[.string h.is,.string h.sc,.int .i64 h.ve,a,.string h.sa,.string h.se,.string h.sv,.int .i64 h.ep,.string h.wi]
def Hd.zero:Hd:=⟨⟨#[]⟩,⟨#[]⟩,0,[],⟨#[]⟩,⟨#[]⟩,⟨#[]⟩,0,⟨#[]⟩⟩
def huD(M O:ByteArray)(d:Dl)(h:Hd)(u:ByteArray)(q:Int):Hd×Int:=
 if (upR M O h.wi u d.ad d.rm d.af).2≠0 then(Hd.zero,(upR M O h.wi u d.ad d.rm d.af).2)else({ h with wi:=(upR M O h.wi u d.ad d.rm d.af).1,ep:=q },0)
def huU(M O:ByteArray)(l:List Dl)(h:Hd)(u:ByteArray)(q:Int):Hd×Int:=
 if h.ep<0∨q<h.ep∨(l.length:Int)<q then(Hd.zero,2)else if q=h.ep then(h,0)else if (bt l h.ep q).2≠0 then(Hd.zero,(bt l h.ep q).2)else huD M O (bt l h.ep q).1 h u q
def huR(M O:ByteArray)(l:List Dl)(h:Hd)(q:Int):Hd×Int:=
 if nvalid h.wi=false then(Hd.zero,3)else match h.at'[1]? with
 | none=>(Hd.zero,6)
 | some u=>if nvalid u=false then(Hd.zero,3)else huU M O l h u q
def RetHu(p:Hd×Int)(w:World)(e:Ending)(w':World):Prop:=∃ A n c,e=.returned (.tuple #[.agg (p.1.arr (.slice A n c)),.int .i64 p.2])∧SlN w' A n c p.1.at'∧Below w.heap.size w w'
end Go.Proofs.YtmahgbhpdfbbjaaGreatDoor
